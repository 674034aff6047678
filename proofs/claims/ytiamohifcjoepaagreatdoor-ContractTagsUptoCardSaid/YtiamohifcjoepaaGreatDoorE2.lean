import Derived.Test.YtiamohifcjoepaaGreatDoorE1
import Derived.Laws.Tables
import Derived.Lib.Strings
import Derived.Laws.Slices
import Derived.Laws.Concat
import Derived.Laws.StructEq
set_option maxRecDepth 100000
set_option maxHeartbeats 2000000
set_option linter.unusedVariables false
set_option linter.unusedSimpArgs false
/-
 Code,calls and results over abstract states.
-/
namespace Go.Ab
open Go Go.RowKit
variable {lou:Lou}
variable {amb:Amb}

inductive K where
 | bool|int (k:IntKind)|str|ptr (e:TypeId)|slice (e:TypeId)|map (k e:TypeId)|struct (fs:List (Nat×TypeId))|func|iface|other
 deriving DecidableEq

def kOf:TypeDesc->K
 | .bool=>.bool
 | .int k=>.int k
 | .string=>.str
 | .pointer e=>.ptr e
 | .slice e=>.slice e
 | .map k e=>.map k e
 | .struct fs=>.struct (fs.toList.map fun f=>(f.offset,f.type))
 | .func _ _ _=>.func
 | .interface _=>.iface
 | _=>.other

structure TI where
 k:K
 size:Nat
 bytes:Nat
 zero:Option A

def cvalDs:List Value->Option (List D)
 | []=>some []
 | v::r=>match cvalD v,cvalDs r with
  | some x,some xs=>some (x::xs)
  | _,_=>none

def zeroA:Option Value->Option A
 | some (.agg cs)=>(cvalDs cs.toList).map .agg
 | some v=>(cvalD v).map .d
 | none=>none

def flatT (P:Program):Nat->TypeId->List TypeId
 | 0,t=>[t]
 | n+1,t=>match P.underlying t with
  | some (.struct fs)=>fs.toList.flatMap fun f=>flatT P n f.type
  | _=>[t]
def fixK (P:Program) (t:TypeId):D->D
 | .slice k tok true []=>match P.underlying t with
  | some (.slice e)=>.slice (P.cellsOf e) tok true []
  | _=>.slice k tok true []
 | x=>x
def fixKs (P:Program):List TypeId->List D->List D
 | t::ts,x::xs=>fixK P t x::fixKs P ts xs
 | _,xs=>xs
def fixA (P:Program) (t:TypeId):A->A
 | .d x=>.d (fixK P t x)
 | .agg xs=>.agg (fixKs P (flatT P 8 t) xs)

def mkTI (P:Program) (t:TypeId):Option TI :=
 match P.info? t,P.underlying t with
 | some i,some d=>some ⟨kOf d,i.size,i.bytes,(zeroA i.zero).map (fixA P t)⟩
 | _,_=>none

theorem DRel.anyk {j:J}{w:World}{k k':Nat}{tok:Option Nat}{v:Value}(h:DRel j w (.slice k tok true []) v):DRel j w (.slice k' tok true []) v:=by
 cases h with
 | snil _ _ ht=>exact .snil _ _ ht
theorem fixK_rel {j:J}{w:World}{P:Program}{t:TypeId}{x:D}{v:Value}(h:DRel j w x v):DRel j w (fixK P t x) v:=by
 unfold fixK
 split
 ·split
  ·exact h.anyk
  ·exact h
 ·exact h
theorem fixKs_rel {j:J}{w:World}{P:Program}:∀{ts:List TypeId}{xs:List D}{vs:List Value},All2 (DRel j w) xs vs->All2 (DRel j w) (fixKs P ts xs) vs
 | [],xs,_,h=>by cases xs<;>exact h
 | _::_,_,_,.nil=>.nil
 | _::ts,_,_,.cons h t=>.cons (fixK_rel h) (fixKs_rel (ts:=ts) t)
theorem fixA_rel {j:J}{w:World}{P:Program}{t:TypeId}{x:A}{v:Value}(h:ARel j w x v):ARel j w (fixA P t x) v:=by
 cases x with
 | d x=>exact fixK_rel (x:=x) h
 | agg xs=>obtain⟨cs,e,h⟩:=h; exact⟨cs,e,fixKs_rel h⟩

theorem cvalDs_rel (j:J) (w:World):∀(cs:List Value) (xs:List D),cvalDs cs=some xs->All2 (DRel j w) xs cs
 | [],xs,h=>by simp [cvalDs] at h; subst h; exact .nil
 | v::r,xs,h=>by
  simp only [cvalDs] at h
  split at h
  ·rename_i x ys h1 h2
   simp at h; subst h;exact .cons (cvalD_rel j w v x h1) (cvalDs_rel j w r ys h2)
  ·simp at h

theorem mkTI_spec {P:Program}{t:TypeId}{ti:TI}(h:mkTI P t=some ti) :
  ∃i d,P.info? t=some i/\P.underlying t=some d/\i.size=ti.size/\i.bytes=ti.bytes/\kOf d=ti.k/\(zeroA i.zero).map (fixA P t)=ti.zero:=by
 unfold mkTI at h
 split at h
 ·rename_i i d h1 h2
  simp at h; subst h;exact⟨i,d,h1,h2,rfl,rfl,rfl,rfl⟩
 ·simp at h

theorem zeroA_rel {z:Option Value}{x:A}(h:zeroA z=some x):∃v,z=some v/\∀j w,ARel j w x v:=by
 unfold zeroA at h
 split at h
 ·rename_i cs
  cases e:cvalDs cs.toList with
  | none=>rw [e] at h; simp at h
  | some xs =>
   rw [e] at h; simp at h; subst h;exact⟨_,rfl,fun j w=>⟨cs.toList,by simp,cvalDs_rel j w _ _ e⟩⟩
 ·rename_i v hn
  cases e:cvalD v with
  | none=>rw [e] at h; simp at h
  | some xs =>
   rw [e] at h; simp at h; subst h;exact⟨_,rfl,fun j w=>cvalD_rel j w _ _ e⟩
 ·simp at h

theorem zeroF_rel {P:Program}{t:TypeId}{z:Option Value}{x:A}(h:(zeroA z).map (fixA P t)=some x):∃v,z=some v/\∀j w,ARel j w x v:=by
 simp only [Option.map_eq_some_iff] at h;obtain⟨y,hy,rfl⟩:=h;obtain⟨v,h1,h2⟩:=zeroA_rel hy;exact⟨v,h1,fun j w=>fixA_rel (h2 j w)⟩

def K.isO:K->Bool
 | .other=>true
 | _=>false
theorem K.ne_other {k:K}(h:k.isO=false):k≠.other:=fun e=>by rw [e] at h; cases h
def aggK:K->Bool
 | .struct _=>true
 | _=>false

def loadA (ti:TI) (xs:List D) (off:Nat):Option A :=
 match aggK ti.k with
 | true=>match Nat.beq off 0&&Nat.beq xs.length ti.size with
  | true=>some (.agg xs)
  | false=>match Nat.ble (off+ti.size) xs.length with
   | true=>some (.agg ((xs.drop off).take ti.size))
   | false=>none
 | false=>match xs[off]? with
  | some x=>some (.d x)
  | none=>none

theorem run_under {P:Program}{t:TypeId}{d:TypeDesc}(h:P.underlying t=some d) (w:World):(underlying t).run P w=.ok d w:=run_underlying h w

theorem isAgg_run {P:Program}{t:TypeId}{ti:TI}(hT:mkTI P t=some ti) (hk:ti.k≠.other) (w:World):(isAgg t).run P w=.ok (aggK ti.k) w:=by
 obtain⟨i,d,h1,h2,_,_,h3,_⟩:=mkTI_spec hT;simp only [isAgg,Sem.run_bind,run_under h2,Result.andThen];cases d<;>simp [kOf] at h3<;>first|(rw [<- h3]; rfl)|(exact absurd h3.symm hk)|skip

theorem sizeOf_run {P:Program}{t:TypeId}{ti:TI}(hT:mkTI P t=some ti) (w:World):(sizeOf t).run P w=.ok ti.size w:=by
 obtain⟨i,d,h1,h2,h3,_⟩:=mkTI_spec hT;simp [sizeOf,typeInfo,h1,h3]

def TabOk (P:Program) (T:List TI):Prop:=∀t ti,T[t]?=some ti->mkTI P t=some ti

structure AC [Lou] (P:Program) (f:FuncId) (args:List A) (h:Heap) (Post:V->Heap->Prop):Prop where
 enter:∀(cargs:Array Value) (w:World),(callFunc f cargs).run P w=.ok (.enter f cargs) w
 runs:∀(j:J) (w:World) (cargs:List Value),HRel j w h->All2 (ARel j w) args cargs->Calls P f cargs.toArray w fun e w' =>
  ∃r cv j' h',e=.returned cv/\Post r h'/\VRel j' w' [] r cv/\HRel j' w' h'/\Evolve j w (Own j h []) j' w' (Own j' h' [])

theorem AC.mono {P:Program}{f:FuncId}{args:List A}{h:Heap}{Post Post':V->Heap->Prop}(hc:AC P f args h Post) (hp:∀r h',Post r h'->Post' r h'):AC P f args h Post' :=
 ⟨hc.enter,fun j w cargs hr ha=>(hc.runs j w cargs hr ha).mono fun _ _ ⟨r,cv,j',h',e,p,rest⟩=>⟨r,cv,j',h',e,hp r h' p,rest⟩⟩

def AQ [Lou] [Amb] (Q:Exit->St->Prop) (j:J) (w:World) (jl:List Nat) (σ:St):Exit->Act->World->Prop :=
 fun e a' w'=>∃σ' j' jl',Q e σ'/\SRel j' w' jl' σ' a'/\Evolve j w (Own j σ.h jl) j' w' (Own j' σ'.h jl')

def AWp [Lou] [Amb] (P:Program) (c:Code) (Q:Exit->St->Prop) (σ:St):Prop :=
 ∀(j:J) (w:World) (jl:List Nat) (a:Act),SRel j w jl σ a->c.wp P (AQ Q j w jl σ) a w

def xThen (next:St->Prop) (Q:Exit->St->Prop):Exit->St->Prop
 | .normal,σ=>next σ
 | e,σ=>Q e σ
def xBlock (id:Nat) (Q:Exit->St->Prop):Exit->St->Prop
 | .exit i,σ=>if i=id then Q .normal σ else Q (.exit i) σ
 | e,σ=>Q e σ

theorem AQ.trans {Q:Exit->St->Prop}{j j1:J}{w w1:World}{jl jl1:List Nat}{σ σ1:St}(hev:Evolve j w (Own j σ.h jl) j1 w1 (Own j1 σ1.h jl1)){e:Exit}{a:Act}{w':World}
  (h:AQ Q j1 w1 jl1 σ1 e a w'):AQ Q j w jl σ e a w' :=
 let ⟨σ',j',jl',hq,hs,he⟩:=h
 ⟨σ',j',jl',hq,hs,hev.trans he⟩

section
variable {P:Program}{Q:Exit->St->Prop}{σ:St}

theorem AWp.mono {c:Code}{Q':Exit->St->Prop}(h:AWp P c Q σ) (hq:∀e σ,Q e σ->Q' e σ):AWp P c Q' σ :=
 fun j w jl a hs=>wp_mono (h j w jl a hs) fun _ _ _ ⟨σ',j',jl',q,r⟩=>⟨σ',j',jl',hq _ _ q,r⟩

theorem AWp.skip (h:Q .normal σ):AWp P .skip Q σ:=fun j w jl _ hs=>wp_skip ⟨σ,j,jl,h,hs,Evolve.refl _ _ _⟩
theorem AWp.ret (h:Q .ret σ):AWp P .ret Q σ:=fun j w jl _ hs=>wp_ret ⟨σ,j,jl,h,hs,Evolve.refl _ _ _⟩
theorem AWp.exit {id:Nat}(h:Q (.exit id) σ):AWp P (.exit id) Q σ:=fun j w jl _ hs=>wp_exit ⟨σ,j,jl,h,hs,Evolve.refl _ _ _⟩
theorem AWp.seq {x y:Code}(h:AWp P x (xThen (AWp P y Q) Q) σ):AWp P (.seq x y) Q σ:=by
 intro j w jl a hs;refine wp_seq (wp_mono (h j w jl a hs) ?_);rintro e a' w' ⟨σ',j',jl',hq,hs',hev⟩;cases e with
 | normal=>exact wp_mono (hq j' w' jl' a' hs') fun e a'' w'' h=>AQ.trans hev h
 | exit id=>exact⟨σ',j',jl',hq,hs',hev⟩
 | goto id=>exact⟨σ',j',jl',hq,hs',hev⟩
 | ret=>exact⟨σ',j',jl',hq,hs',hev⟩
 | panic ch=>exact⟨σ',j',jl',hq,hs',hev⟩
 | outgrown=>exact⟨σ',j',jl',hq,hs',hev⟩

theorem boolOf {j:J}{w:World}{jl:List Nat}{a:Act}{ts:Ts}{x:Operand}{b:Bool}(hs:∀k,VRel j w jl (get ts k) (a.tmps.getD k undef)) (hx:ev ts x=.a (.d (.bool b))):a.eval x=.bool b:=by
 have h:=ev_rel hs x;rw [hx] at h;have h':DRel j w (.bool b) (a.eval x):=h;generalize a.eval x=y at h';cases h'; rfl

theorem AWp.cond {c:Operand}{x y:Code}{b:Bool}(hc:ev σ.ts c=.a (.d (.bool b))) (ht:b=true->AWp P x Q σ) (hf:b=false->AWp P y Q σ):AWp P (.cond c x y) Q σ:=by
 intro j w jl a hs;exact wp_cond_split (boolOf hs.tmps hc) (fun e=>ht e j w jl a hs) (fun e=>hf e j w jl a hs)

theorem AWp.block {id:Nat}{c:Code}(h:AWp P c (xBlock id Q) σ):AWp P (.block id c) Q σ:=by
 intro j w jl a hs;refine wp_block (wp_mono (h j w jl a hs) ?_);rintro e a' w' ⟨σ',j',jl',hq,hs',hev⟩;cases e with
 | exit i =>
  simp only [xBlock] at hq;simp only [Exit.inBlock]
  split
  ·rename_i e; rw [if_pos e] at hq; exact⟨σ',j',jl',hq,hs',hev⟩
  ·rename_i e; rw [if_neg e] at hq; exact⟨σ',j',jl',hq,hs',hev⟩
 | normal=>exact⟨σ',j',jl',hq,hs',hev⟩
 | goto id=>exact⟨σ',j',jl',hq,hs',hev⟩
 | ret=>exact⟨σ',j',jl',hq,hs',hev⟩
 | panic ch=>exact⟨σ',j',jl',hq,hs',hev⟩
 | outgrown=>exact⟨σ',j',jl',hq,hs',hev⟩

theorem AWp.loop {α:Type}{c:Code}(inv:α->St) (m:α->Nat) (pre:α->Prop) (x0:α) (h0:pre x0)
  (hr:∀x,pre x->AWp P c (xThen (fun σ'=>∃y,σ'=inv y/\pre y/\m y<m x) Q) (inv x)):AWp P (.loop c) Q (inv x0):=by
 intro j w jl a hs b k cs;have key:∀n x,m x=n->pre x->∀(j:J) (w:World) (jl:List Nat) (a:Act),SRel j w jl (inv x) a ->
   ∃e a' w',AQ Q j w jl (inv x) e a' w'/\Arrives P (lone (b.at a (.code c::.inLoop c::k)) cs w) b k cs e a' w':=by
  intro n;induction n using Nat.strongRecOn with
  | _ n ih =>
   intro x hn hp j w jl a hs;obtain⟨e,a1,w1,⟨σ',j',jl',hq,hs',hev⟩,harr⟩:=hr x hp j w jl a hs b (.inLoop c::k) cs;cases e with
   | normal =>
    obtain⟨y,rfl,hpy,hlt⟩:=hq;obtain⟨e2,a2,w2,hq2,harr2⟩:=ih (m y) (hn▸hlt) y rfl hpy j' w1 jl' a1 hs';exact⟨e2,a2,w2,AQ.trans hev hq2,.of_steps (Steps.trans harr (.one step_inLoop)) harr2⟩
   | exit id=>exact⟨_,a1,w1,⟨σ',j',jl',hq,hs',hev⟩,.pass (x:=.inLoop c) rfl (fun _ _=>.inl (by simp)) harr⟩
   | goto l=>exact⟨_,a1,w1,⟨σ',j',jl',hq,hs',hev⟩,.pass (x:=.inLoop c) rfl (fun _ _=>.inl (by simp)) harr⟩
   | ret=>exact⟨_,a1,w1,⟨σ',j',jl',hq,hs',hev⟩,.pass (x:=.inLoop c) rfl (fun _ _=>.inl (by simp)) harr⟩
   | panic ch=>exact⟨_,a1,w1,⟨σ',j',jl',hq,hs',hev⟩,.pass (x:=.inLoop c) rfl (fun _ _=>.inl (by simp)) harr⟩
   | outgrown=>exact⟨_,a1,w1,⟨σ',j',jl',hq,hs',hev⟩,.pass (x:=.inLoop c) rfl (fun _ _=>.inl (by simp)) harr⟩
 obtain⟨e,a',w',hq,harr⟩:=key _ x0 rfl h0 j w jl a hs;exact⟨e,a',w',hq,.of_steps (.one step_loop) harr⟩

theorem AWp.region {id:Nat}{l:List Oper}(h:AOps P l.toArray l (Q .normal) σ):AWp P (.region id l.toArray false) Q σ:=by
 intro j w jl a hs;exact wp_region_lit (h j w jl a hs _ fun σ' j' w' jl' a' hq hs' hev=>⟨σ',j',jl',hq,hs',hev⟩)

theorem AWp.draw (hm:P.follows .mixedOrders=true){id:Nat}{l:List Oper}(h:DOps P l.toArray σ.n l [] (Q .normal) σ):AWp P (.region id l.toArray true) Q σ:=by
 intro j w jl a hs;exact DOps.wp hm h rfl hs fun σ' j' w' jl' a' hq hs' hev=>⟨σ',j',jl',hq,hs',hev⟩

def Weak [Lou] [Amb] (σ σ':St):Prop:=∀(j:J) (w:World) (jl:List Nat) (a:Act),SRel j w jl σ a->∃j' jl',SRel j' w jl' σ' a/\Evolve j w (Own j σ.h jl) j' w (Own j' σ'.h jl')

theorem Weak.refl (σ:St):Weak σ σ:=fun j _ jl _ hs=>⟨j,jl,hs,Evolve.refl _ _ _⟩
theorem Weak.trans {σ σ1 σ2:St}(h:Weak σ σ1) (h':Weak σ1 σ2):Weak σ σ2:=by
 intro j w jl a hs;obtain⟨j1,jl1,hs1,he1⟩:=h j w jl a hs;obtain⟨j2,jl2,hs2,he2⟩:=h' j1 w jl1 a hs1;exact⟨j2,jl2,hs2,he1.trans he2⟩

theorem AWp.weak {c:Code}{σ':St}(hw:Weak σ σ') (h:AWp P c Q σ'):AWp P c Q σ:=by
 intro j w jl a hs;obtain⟨j',jl',hs',hev⟩:=hw j w jl a hs;exact wp_mono (h j' w jl' a hs') fun e a w h=>AQ.trans hev h

theorem AWp.post {c:Code}(h:AWp P c (fun e σ1=>∃σ2,Weak σ1 σ2/\Q e σ2) σ):AWp P c Q σ:=by
 intro j w jl a hs;refine wp_mono (h j w jl a hs) ?_;rintro e a' w' ⟨σ',j',jl',⟨σ2,hw,hq⟩,hs',hev⟩;obtain⟨j2,jl2,hs2,he2⟩:=hw j' w' jl' a' hs';exact⟨σ2,j2,jl2,hq,hs2,hev.trans he2⟩

inductive Keeps (ts:Ts) (n:Nat):Ts->Prop where
 | nil:Keeps ts n []
 | cons {k:Nat}{v:V}{r:Ts}(h:get ts k=v) (hv:(∀i off,v=.lptr i off->i<n)/\∀c i off,v=.gdl c i off->i<n) (t:Keeps ts n r):Keeps ts n ((k,v)::r)

theorem Keeps.get {ts:Ts}{n:Nat}{ts':Ts}(h:Keeps ts n ts') (k:Nat):Ab.get ts' k=.any\/(Ab.get ts' k=Ab.get ts k/\(∀i off,Ab.get ts' k=.lptr i off->i<n)/\∀c i off,Ab.get ts' k=.gdl c i off->i<n):=by
 induction h with
 | nil=>exact .inl rfl
 | @cons k' v r h hv t ih =>
  by_cases e:k'=k
  ·subst e; rw [get_same]; exact .inr ⟨h.symm,hv⟩
  ·rw [get_other _ _ e]; exact ih

theorem Weak.keep {n:Nat}{ts ts':Ts}{ls:List (List D)}{h:Heap}(m:Nat) (hk:Keeps ts m ts'):Weak ⟨n,ts,ls,h⟩ ⟨n,ts',ls.take m,h⟩:=by
 intro j w jl a hs;obtain⟨hl,hev⟩:=hs.hl.trim m;refine⟨j,jl.take m,⟨hs.defers,hs.size,fun k=>?_,hl⟩,hev⟩;rcases hk.get k with e|⟨e,hlt,hlt2⟩
 ·show VRel _ _ _ (Ab.get ts' k) _;rw [e]; trivial
 ·show VRel _ _ _ (Ab.get ts' k) _;have hv:=hs.tmps k;have hv:VRel j w jl (Ab.get ts k) (a.tmps.getD k undef):=hv;rw [<- e] at hv;cases hx:Ab.get ts' k with
  | any=>trivial
  | a x=>rw [hx] at hv; exact hv
  | lptr i off =>
   rw [hx] at hv;obtain⟨b,hb,e'⟩:=hv;exact⟨b,by rw [List.getElem?_take_of_lt (hlt i off hx)]; exact hb,e'⟩
  | tup xs=>rw [hx] at hv; exact hv
  | gd c x=>rw [hx] at hv; exact hv
  | full k rows=>rw [hx] at hv; exact hv
  | gdf c k rows=>rw [hx] at hv; exact hv
  | gdl c i off =>
   rw [hx] at hv;refine⟨fun hc=>?_,hv.2⟩;obtain⟨b,hb,e'⟩:=hv.1 hc;exact⟨b,by rw [List.getElem?_take_of_lt (hlt2 c i off hx)]; exact hb,e'⟩

theorem Weak.forget {n:Nat}{ts:Ts}{ls:List (List D)}{h h':Heap}(hh:∀id o,h' id=some o->h id=some o):Weak ⟨n,ts,ls,h⟩ ⟨n,ts,ls,h'⟩:=by
 intro j w jl a hs;obtain⟨hl,hev⟩:=hs.hl.forget hh;exact⟨j,jl,⟨hs.defers,hs.size,hs.tmps,hl⟩,hev⟩

end

def argTs:Nat->List A->Ts
 | _,[]=>[]
 | k,x::r=>(k,.a x)::argTs (k+1) r

theorem argTs_rel {j:J}{w:World}(f:Nat->Value):∀(k:Nat) (args:List A) (cargs:List Value),All2 (ARel j w) args cargs->(∀i v,cargs[i]?=some v->f (k+i)=v) ->
  ∀t,VRel j w [] (get (argTs k args) t) (f t)
 | k,_,_,.nil,_,_=>trivial
 | k,_,_,.cons (a:=x) (b:=v) (l:=l) (m:=m) h ht,hf,t=>by
  by_cases e:k=t
  ·subst e;simp only [argTs];rw [get_same];have:=hf 0 v rfl;rw [Nat.add_zero] at this;rw [this]; exact h
  ·simp only [argTs];rw [get_other _ _ e];exact argTs_rel f (k+1) l m ht (fun i v hv=>by have:=hf (i+1) v (by simpa using hv); rw [<- this]; congr 1; omega) t

def resA (T:List TI) (σ:St):ResultVar->Option A
 | .tmp t=>match get σ.ts t with
  | .a x=>some x
  | _=>none
 | .cell t ty=>match get σ.ts t,T[ty]? with
  | .lptr i off,some ti=>match ti.k.isO,σ.ls[i]? with
   | false,some xs=>loadA ti xs off
   | _,_=>none
  | _,_=>none

def resAs (T:List TI) (σ:St):List ResultVar->Option (List A)
 | []=>some []
 | r::rs=>match resA T σ r,resAs T σ rs with
  | some x,some xs=>some (x::xs)
  | _,_=>none

def resV:List A->V
 | [x]=>.a x
 | xs=>.tup xs

end Go.Ab

/-
 Loads,stores and results; from the walk of a body to the contract of a function.
-/
namespace Go.Ab
open Go Go.RowKit
variable {lou:Lou}
section
variable {amb:Amb}

theorem DRel.one {j:J}{w:World}{x:D}{v:Value}(h:DRel j w x v):v.oneCell'=true:=by cases h<;>rfl

def Cells (j:J) (w:World) (b o:Nat) (xs:List D):Prop:=∀i x,xs[i]?=some x->∃v,w.cell? ⟨b,o+i,none⟩=some v/\DRel j w x v

theorem add_plain (b o n:Nat):(⟨b,o,none⟩:Addr).add n=⟨b,o+n,none⟩:=by unfold Addr.add; split<;>simp_all

theorem loadCells_rel {P:Program}{j:J}{w:World}{b o:Nat}:∀(xs:List D),(∀i x,xs[i]?=some x->∃v,w.cell? ⟨b,o+i,none⟩=some v/\DRel j w x v) ->
  ∃cs:List Value,All2 (DRel j w) xs cs/\(loadCells ⟨b,o,none⟩ xs.length).run P w=.ok cs.toArray w:=by
 intro xs h;have hcs:∃cs:List Value,All2 (DRel j w) xs cs/\∀i v,cs[i]?=some v->w.cell? ⟨b,o+i,none⟩=some v:=by
  induction xs generalizing o with
  | nil=>exact⟨[],.nil,by simp⟩
  | cons x r ih =>
   obtain⟨v,hv,hr⟩:=h 0 x rfl;obtain⟨cs,hcs,hcell⟩:=ih (o:=o+1) fun i y hy=>by
    have:=h (i+1) y (by simpa using hy)
    rwa [show o+(i+1)=o+1+i by omega] at this
   refine⟨v::cs,.cons hr hcs,fun i u hu=>?_⟩;cases i with
   | zero=>simp at hu; subst hu; exact hv
   | succ i=>rw [show o+(i+1)=o+1+i by omega]; exact hcell i u (by simpa using hu)
 obtain⟨cs,h1,h2⟩:=hcs;refine⟨cs,h1, ?_⟩;rw [h1.length];exact run_loadCells_list w _ cs fun i v hv=>by rw [add_plain]; exact h2 i v hv

theorem loadVar_rel {P:Program}{j:J}{w:World}{b o off:Nat}{xs:List D}(hc:Cells j w b o xs){t:TypeId}{ti:TI}(hT:mkTI P t=some ti) (hk:ti.k≠.other){x:A}(hl:loadA ti xs off=some x) :
  ∃v,(loadVar t ⟨b,o+off,none⟩).run P w=.ok v w/\ARel j w x v:=by
 unfold loadA at hl;simp only [loadVar,Sem.run_bind,isAgg_run hT hk,Result.andThen];cases ha:aggK ti.k with
 | false =>
  rw [ha] at hl;dsimp only at hl
  split at hl
  ·rename_i y hy
   simp at hl; subst hl;obtain⟨v,hv,hr⟩:=hc off y hy;refine⟨v, ?_,hr⟩;simp [hv]
  ·simp at hl
 | true =>
  rw [ha] at hl;dsimp only at hl;have hgo:∀ys:List D,ys.length=ti.size->(∀i y,ys[i]?=some y->xs[off+i]?=some y)->∃v,(loadCells ⟨b,o+off,none⟩ ti.size).run P w=.ok v w/\ARel j w (.agg ys) (.agg v):=by
   intro ys hlen hys;obtain⟨cs,h1,h2⟩:=loadCells_rel (P:=P) (j:=j) (w:=w) (b:=b) (o:=o+off) ys fun i y hy=>by
    have:=hc (off+i) y (hys i y hy)
    rwa [<- Nat.add_assoc] at this
   rw [hlen] at h2;exact⟨_,h2,cs,rfl,h1⟩
  have hfin:∀ys:List D,ys.length=ti.size->(∀i y,ys[i]?=some y->xs[off+i]?=some y) ->
    ∃v,((Sem.run P (if true=true then Value.agg <$> (do loadCells ⟨b,o+off,none⟩ (<- sizeOf t)) else load ⟨b,o+off,none⟩)) w)=.ok v w/\ARel j w (.agg ys) v:=by
   intro ys hlen hys;obtain⟨v,h1,h2⟩:=hgo ys hlen hys;exact⟨.agg v,by simp [sizeOf_run hT,h1],h2⟩
  split at hl
  ·rename_i hc1
   simp at hl; subst hl;simp only [Bool.and_eq_true] at hc1;have e1:off=0:=Nat.eq_of_beq_eq_true hc1.1;have e2:xs.length=ti.size:=Nat.eq_of_beq_eq_true hc1.2;obtain⟨v,h1,h2⟩:=hfin xs e2 fun i y hy=>by rw [e1,Nat.zero_add]; exact hy
   exact⟨v,by simpa [sizeOf_run hT] using h1,h2⟩
  ·split at hl
   ·rename_i hc2
    simp at hl; subst hl;have hle:=Nat.le_of_ble_eq_true hc2;obtain⟨v,h1,h2⟩:=hfin ((xs.drop off).take ti.size) (by simp; omega) fun i y hy=>by
     rw [List.getElem?_take] at hy
     split at hy
     ·rw [List.getElem?_drop] at hy; exact hy
     ·simp at hy
    exact⟨v,by simpa [sizeOf_run hT] using h1,h2⟩
   ·simp at hl

theorem Loc1.cells {j:J}{w:World}{b:Nat}{xs:List D}(h:Loc1 j w b xs):Cells j w b 0 xs:=by
 obtain⟨cs,e,hh,hx,_⟩:=h;intro i x hi;obtain⟨v,hv,hr⟩:=hx.get hi;exact⟨v,by rw [Nat.zero_add,cell_of_row w b i cs.toArray e (0,0) hh]; simpa using hv,hr⟩

def spl {α:Type}:List α->Nat->List α->List α
 | l,_,[]=>l
 | l,n,v::r=>spl (l.set n v) (n+1) r

theorem spl_length {α:Type}:∀(l:List α) (n:Nat) (r:List α),(spl l n r).length=l.length
 | l,_,[]=>rfl
 | l,n,v::r=>by rw [spl,spl_length]; simp

theorem All2.spl {α β:Type}{R:α->β->Prop}{l:List α}{m:List β}(h:All2 R l m):∀(n:Nat){r:List α}{s:List β},All2 R r s->All2 R (Ab.spl l n r) (Ab.spl m n s):=by
 intro n r s hr;induction hr generalizing l m n with
 | nil=>exact h
 | cons x _ ih=>exact ih (h.set x n) (n+1)

theorem Upd.trans {w w1 w2:World}{b:Nat}{o o':Go.Obj}(h:Upd w w1 b o) (h':Upd w1 w2 b o'):Upd w w2 b o' :=
 ⟨h'.size.trans h.size,h'.here,fun x hx=>(h'.other x hx).trans (h.other x hx),h'.os.trans h.os,h'.tape.trans h.tape,h'.output.trans h.output⟩

theorem Upd.same {w:World}{b:Nat}{o:Go.Obj}(h:w.heap[b]?=some o):Upd w w b o:=⟨rfl,h,fun _ _=>rfl,rfl,rfl,Outs.rfl⟩

theorem Upd.setCell {w:World}{b i:Nat}{cs:List Value}{e:TypeId}(h:w.heap[b]?=some (.cells cs.toArray e (0,0))) (v:Value):Upd w (w.setCell ⟨b,i,none⟩ v) b (.cells (cs.set i v).toArray e (0,0)):=by
 refine⟨by simp, ?_,fun x hx=>heap_setCell_other w _ x v hx,rfl,rfl,Outs.rfl⟩;have hlt:=lt_of_heap h;simp only [World.setCell,Array.getElem?_modify,if_true,h,Option.map_some];simp

theorem storeCells_upd {P:Program}{b off:Nat}{e:TypeId}:∀(vs:List Value) (i:Nat) (cs:List Value) (w:World),w.heap[b]?=some (.cells cs.toArray e (0,0))->off+i+vs.length<=cs.length ->
  (∀v∈vs,v.oneCell'=true)->∃w',(storeCells ⟨b,off,none⟩ vs i).run P w=.ok () w'/\Upd w w' b (.cells (spl cs (off+i) vs).toArray e (0,0))
 | [],i,cs,w,hg,_,_=>⟨w,by simp [storeCells],Upd.same hg⟩
 | v::rest,i,cs,w,hg,hl,h1=>by
  simp only [List.length_cons] at hl;have hu:=Upd.setCell (lou:=lou) (i:=off+i) hg v;obtain⟨w',h2,h3⟩:=storeCells_upd (P:=P) (off:=off) (e:=e) rest (i+1) (cs.set (off+i) v) _ hu.here (by simp; omega) (fun x hx=>h1 x (by simp [hx]));refine⟨w', ?_,hu.trans h3⟩;have hcell:w.cell? ⟨b,off+i,none⟩=some (cs[off+i]'(by omega)):=by
   rw [cell_of_row w b (off+i) cs.toArray e (0,0) hg];rw [Array.getElem?_eq_getElem (by simp; omega)]; simp
  have hfro:w.frozen? ⟨b,off+i,none⟩=false:=frozen_of_row w b _ cs.toArray e hg;have hst:(store ((⟨b,off,none⟩:Addr).add i) v).run P w=.ok () (w.setCell ⟨b,off+i,none⟩ v):=by
   rw [add_plain,run_store P w _ v _ (h1 v (by simp)),hcell];simp [hfro]
  simp only [storeCells,Sem.run_bind,hst,Result.andThen,h2]

def cellsA:A->List D
 | .d x=>[x]
 | .agg xs=>xs

theorem ARel.cells {j:J}{w:World}{x:A}{v:Value}(h:ARel j w x v):All2 (DRel j w) (cellsA x) v.cells.toList:=by
 cases x with
 | d x =>
  have hd:DRel j w x v:=h;have:v.cells=#[v]:=by cases hd<;>rfl
  rw [this];exact .cons hd .nil
 | agg xs=>obtain⟨cs,e,h⟩:=h; subst e; simpa [Value.cells,cellsA] using h

theorem all2_one {j:J}{w:World}{xs:List D}{cs:List Value}(h:All2 (DRel j w) xs cs):∀v∈cs,v.oneCell'=true:=by
 induction h with
 | nil=>simp
 | cons x _ ih =>
  intro v hv;rcases List.mem_cons.1 hv with e|e
  ·rw [e]; exact x.one
  ·exact ih v e

theorem storeVar_upd {P:Program}{j:J}{w:World}{b off:Nat}{e:TypeId}{cs:List Value}(hg:w.heap[b]?=some (.cells cs.toArray e (0,0))){t:TypeId}{ti:TI}(hT:mkTI P t=some ti){x:A}{v:Value}(hv:ARel j w x v)
  (hs:(cellsA x).length=ti.size) (hl:off+ti.size<=cs.length):∃w',(storeVar t ⟨b,off,none⟩ v).run P w=.ok () w'/\Upd w w' b (.cells (spl cs off v.cells.toList).toArray e (0,0)):=by
 have hc:=hv.cells;have hlen:v.cells.size=ti.size:=by rw [<- hs,hc.length]; simp
 obtain⟨w',h1,h2⟩:=storeCells_upd (P:=P) (off:=off) (e:=e) v.cells.toList 0 cs w hg (by simp; omega) (all2_one hc);refine⟨w', ?_,by simpa using h2⟩;simp [storeVar,sizeOf_run hT,hlen,h1]

theorem resA_run {P:Program}{T:List TI}(hTab:TabOk P T){σ:St}{j:J}{w:World}{jl:List Nat}{a:Act}(hs:SRel j w jl σ a){r:ResultVar}{x:A}(h:resA T σ r=some x) :
  ∃v,(match r with|.tmp t=>pure (a.tmps.getD t undef)|.cell t ty=>do loadVar ty (<- asAddr (a.tmps.getD t undef)):Sem Value).run P w=.ok v w/\ARel j w x v:=by
 cases r with
 | tmp t =>
  have hv:=hs.tmps t;simp only [resA] at h
  split at h
  ·rename_i y hy
   simp at h; subst h;rw [hy] at hv;exact⟨_,rfl,hv⟩
  ·simp at h
 | cell t ty =>
  have hv:=hs.tmps t;simp only [resA] at h
  split at h
  ·rename_i i off ti h1 h2
   rw [h1] at hv;obtain⟨b,hb,e⟩:=hv
   split at h
   ·rename_i xs hk hx
    obtain⟨b',hb',hloc⟩:=hs.hl.2.each.get hx;rw [hb] at hb'; simp only [Option.some.injEq] at hb'; subst hb';obtain⟨v,h3,h4⟩:=loadVar_rel (P:=P) hloc.cells (hTab _ _ h2) (K.ne_other hk) h;refine⟨v, ?_,h4⟩;rw [Nat.zero_add] at h3;simp [e,asAddr,h3]
   ·simp at h
  ·simp at h

theorem resAs_run {P:Program}{T:List TI}(hTab:TabOk P T){σ:St}{j:J}{w:World}{jl:List Nat}{a:Act}(hs:SRel j w jl σ a):∀(rs:List ResultVar) (xs:List A),resAs T σ rs=some xs ->
  ∃vs:List Value,(rs.mapM fun r=>(match r with|.tmp t=>pure (a.tmps.getD t undef)|.cell t ty=>do loadVar ty (<- asAddr (a.tmps.getD t undef)):Sem Value)).run P w=.ok vs w/\All2 (ARel j w) xs vs
 | [],xs,h=>by simp [resAs] at h; subst h; exact⟨[],by simp,.nil⟩
 | r::rs,xs,h=>by
  simp only [resAs] at h
  split at h
  ·rename_i x ys h1 h2
   simp at h; subst h;obtain⟨v,hv1,hv2⟩:=resA_run hTab hs h1;obtain⟨vs,hvs1,hvs2⟩:=resAs_run hTab hs rs ys h2;refine⟨v::vs, ?_,.cons hv2 hvs2⟩;rw [List.mapM_cons,Sem.run_bind,hv1];simp only [Result.andThen,Sem.run_bind,hvs1,Sem.run_pure]
  ·simp at h

def retQ (T:List TI) (rs:List ResultVar) (Post:V->Heap->Prop):Exit->St->Prop:=fun e σ =>
 (e=.normal\/e=.ret)/\∃xs h',resAs T σ rs=some xs/\(∀id o,h' id=some o->σ.h id=some o)/\Post (resV xs) h'

end

theorem AC.of_wp {P:Program}{T:List TI}(hTab:TabOk P T){f:FuncId}{fn:Func}{c:Code}{args:List A}{h:Heap}{Post:V->Heap->Prop}(hcall:∀(cargs:Array Value) (w:World),(callFunc f cargs).run P w=.ok (.enter f cargs) w) (hf:P.funcs[f]?=some fn) (hb:fn.body=some c){n:Nat}(hn:fn.ntmps=n){rs:List ResultVar}(hrs:fn.results.toList=rs) (hl:Nat.ble args.length n=true)
  (hw:AWp P c (retQ T rs Post) ⟨n,argTs 0 args,[],h⟩):AC P f args h Post:=by
 subst hn hrs;have hl:=Nat.le_of_ble_eq_true hl;refine⟨hcall,fun j w cargs hr ha=>?_⟩;refine calls_of_wp hf hb (wp_mono (hw j w [] _ ?_) ?_)
 ·have hlen:=ha.length;refine⟨rfl,by simp; omega,fun t=>?_,⟨hr,⟨.nil,by simp,by simp⟩⟩⟩;refine argTs_rel (fun t=>(cargs.toArray++Array.replicate (fn.ntmps-cargs.toArray.size) undef).getD t undef) 0 args cargs ha (fun i v hv=>?_) t;rw [Nat.zero_add,Array.getD_eq_getD_getElem?,Array.getElem?_append];have:i<cargs.length:=(List.getElem?_eq_some_iff.1 hv).1;simp [this];exact(List.getElem?_eq_some_iff.1 hv).2
 ·rintro e a' w' ⟨σ',j',jl',⟨he,xs,h',hres,hh',hpost⟩,hs',hev⟩;obtain⟨vs,hv1,hv2⟩:=resAs_run hTab hs' fn.results.toList xs hres;have hrun:∃v,(results fn a'.tmps).run P w'=.ok v w'/\VRel j' w' [] (resV xs) v:=by
   refine⟨if h:vs.toArray.size=1 then vs.toArray[0] else .tuple vs.toArray, ?_, ?_⟩
   ·unfold results;rw [Sem.run_bind,Array.mapM_eq_mapM_toList];rw [Sem.run_map];rw [show (List.mapM _ fn.results.toList:Sem (List Value))=List.mapM (fun r=>(match r with|.tmp t=>pure (a'.tmps.getD t undef)|.cell t ty=>do loadVar ty (<- asAddr (a'.tmps.getD t undef)):Sem Value)) fn.results.toList from by
     congr 1]
    rw [hv1];simp [Result.andThen]
   ·cases hv2 with
    | nil=>exact⟨[],rfl,.nil⟩
    | cons h1 h2 =>
     cases h2 with
     | nil=>simpa [resV,VRel] using h1
     | cons h3 h4=>exact⟨_,by simp,.cons h1 (.cons h3 h4)⟩
  obtain⟨v,hv,hvr⟩:=hrun;obtain⟨hl1,hev1⟩:=hs'.hl.trim 0;obtain⟨hl2,hev2⟩:=hl1.forget hh';have hfin:∃r cv j'' h'',Ending.returned v=.returned cv/\Post r h''/\VRel j'' w' [] r cv/\HRel j'' w' h''/\Evolve j w (Own j h []) j'' w' (Own j'' h'' []) :=
   ⟨resV xs,v,j',h',rfl,hpost,hvr,hl2.1,(hev.trans hev1).trans hev2⟩
  rcases he with he|he<;>subst he
  ·exact⟨hs'.defers,v,hv,hfin⟩
  ·exact⟨hs'.defers,v,hv,hfin⟩

end Go.Ab

/-
 The operations that leave the world alone.
-/
namespace Go.Ab
open Go Go.RowKit
variable {lou:Lou}

def PureE (P:Program) (o:Oper) (ts:Ts) (ls:List (List D)) (h:Heap) (fx:Fx) (v:V):Prop :=
 fx.wl=false/\fx.wh=false/\∀L H,(fx.rl=true->L=ls)->(fx.rh=true->H=h)->∀(j:J) (w:World) (jl:List Nat) (a:Act),HL j w jl L H ->
  (∀x,x∈o.op.operands->VRel j w jl (ev ts x) (a.eval x))->∃cv,(execOp a.eval o).run P w=.ok (.value cv) w/\VRel j w jl v cv

theorem PureE.cert {P:Program}{o:Oper}{ts:Ts}{ls:List (List D)}{h:Heap}{fx:Fx}{v:V}(hp:PureE P o ts ls h fx v):Cert P o ts ls h fx v ls h:=by
 obtain⟨h1,h2,hp⟩:=hp;intro L H hL hH j w jl a hl ho K Q hk;rw [h1,Bool.or_false] at hL;rw [h2,Bool.or_false] at hH;obtain⟨cv,hr,hv⟩:=hp L H hL hH j w jl a hl ho;unfold Oper.wp;rw [hr,Oper.upon_value];exact hk v L H cv j w jl ⟨rfl,by rw [h1]; rfl,by rw [h2]; rfl⟩ hv hl (Ext.refl _) (Evolve.refl _ _ _)

section
variable {P:Program}{ts:Ts}{ls:List (List D)}{h:Heap}{dst:Option Tmp}{ty:TypeId}{pos:String}{aft:Array Edge}{g:Option (Nat×Bool)}

abbrev mk (dst:Option Tmp) (op:Op) (ty:TypeId) (pos:String) (aft:Array Edge) (g:Option (Nat×Bool)):Oper:=⟨dst,op,ty,pos,aft,g⟩

theorem Cert.of_ops {o:Oper}{v:V}(hp:∀(j:J) (w:World) (jl:List Nat) (a:Act),(∀x,x∈o.op.operands->VRel j w jl (ev ts x) (a.eval x))->∃cv,(execOp a.eval o).run P w=.ok (.value cv) w/\VRel j w jl v cv) :
  Cert P o ts ls h {} v ls h :=
 PureE.cert ⟨rfl,rfl,fun _ _ _ _ j w jl a _ ho=>hp j w jl a ho⟩

theorem rel_bool {j:J}{w:World}{jl:List Nat}{b:Bool}{cv:Value}(h:VRel j w jl (.a (.d (.bool b))) cv):cv=.bool b:=by
 have h':DRel j w (.bool b) cv:=h;cases h'; rfl
theorem rel_int {j:J}{w:World}{jl:List Nat}{k:IntKind}{n:Int}{cv:Value}(h:VRel j w jl (.a (.d (.int k n))) cv):cv=.int k n:=by
 have h':DRel j w (.int k n) cv:=h;cases h'; rfl
theorem rel_str {j:J}{w:World}{jl:List Nat}{s:List UInt8}{cv:Value}(h:VRel j w jl (.a (.d (.str s))) cv):cv=.string ⟨s.toArray⟩/\s.length<=maxS:=by
 have h':DRel j w (.str s) cv:=h;cases h' with
 | str _ hs=>exact⟨rfl,hs⟩
theorem rel_lptr {j:J}{w:World}{jl:List Nat}{i off:Nat}{cv:Value}(h:VRel j w jl (.lptr i off) cv):∃b,jl[i]?=some b/\cv=.pointer (some ⟨b,off,none⟩):=h
theorem rel_view {j:J}{w:World}{jl:List Nat}{xs:List D}{cv:Value}(h:VRel j w jl (.a (.d (.view xs))) cv):∃a f,cv=.pointer (some a)/\At j w a xs.length f/\∀i (h:i<xs.length),DRel j w xs[i] (f i):=by
 have h':DRel j w (.view xs) cv:=h;cases h' with
 | view _ a f hat hr=>exact⟨a,f,rfl,hat,hr⟩
theorem rel_ptr {j:J}{w:World}{jl:List Nat}{id off:Nat}{cv:Value}(h:VRel j w jl (.a (.d (.ptr id off))) cv):cv=.pointer (some ⟨j.out id,off,none⟩)/\id<j.next:=by
 have h':DRel j w (.ptr id off) cv:=h;cases h' with
 | ptr _ _ hi=>exact⟨rfl,hi⟩

theorem Cert.move {x:Operand}{v:V}(hx:ev ts x=v):Cert P (mk dst (.move x) ty pos aft g) ts ls h {} v ls h :=
 Cert.of_ops fun j w jl a ho=>⟨a.eval x,rfl,hx▸ho x (by simp [Op.operands])⟩
theorem Cert.assign {x:Operand}{v:V}(hx:ev ts x=v):Cert P (mk dst (.assign x) ty pos aft g) ts ls h {} v ls h :=
 Cert.of_ops fun j w jl a ho=>⟨a.eval x,rfl,hx▸ho x (by simp [Op.operands])⟩
theorem At.cells {j:J}{w:World}{a:Addr}{xs:List D}{f:Nat->Value}(hat:At j w a xs.length f) (hr:∀i (h:i<xs.length),DRel j w xs[i] (f i)):Cells j w a.block a.off xs:=by
 intro i x hx;have hi:=(List.getElem?_eq_some_iff.1 hx).1;refine⟨f i,(hat.2 i hi).2, ?_⟩;have:=hr i hi;rw [(List.getElem?_eq_some_iff.1 hx).2] at this; exact this

theorem Cert.loadL {t:TypeId}{ti:TI}{x:Operand}{i off:Nat}{xs:List D}{v:A}(hT:mkTI P t=some ti) (hk:ti.k.isO=false) (hx:ev ts x=.lptr i off) (hl:ls[i]?=some xs) (hv:loadA ti xs off=some v) :
  Cert P (mk dst (.load t x) ty pos aft g) ts ls h { rl:=true } (.a v) ls h :=
 PureE.cert ⟨rfl,rfl,fun L H hL _ j w jl a hh ho=>by
  have h1:=ho x (by simp [Op.operands]);rw [hx] at h1;obtain⟨b,hb,e⟩:=rel_lptr h1;rw [hL rfl] at hh;obtain⟨b',hb',hloc⟩:=hh.2.each.get hl;rw [hb] at hb'; simp only [Option.some.injEq] at hb'; subst hb';obtain⟨cv,h3,h4⟩:=loadVar_rel (P:=P) hloc.cells hT (K.ne_other hk) hv;rw [Nat.zero_add] at h3;exact⟨cv,by simp [execOp,Instr.loadAt,Instr.sureAddr,e,h3],h4⟩⟩

theorem Cert.loadV {t:TypeId}{ti:TI}{x:Operand}{xs:List D}{v:A}(hT:mkTI P t=some ti) (hk:ti.k.isO=false) (hx:ev ts x=.a (.d (.view xs))) (hv:loadA ti xs 0=some v) :
  Cert P (mk dst (.load t x) ty pos aft g) ts ls h {} (.a v) ls h :=
 Cert.of_ops fun j w jl a ho=>by
  have h1:=ho x (by simp [Op.operands]);rw [hx] at h1;obtain⟨ad,f,e,hat,hr⟩:=rel_view h1;obtain⟨cv,h3,h4⟩:=loadVar_rel (P:=P) (hat.cells hr) hT (K.ne_other hk) hv;have he:ad=⟨ad.block,ad.off+0,none⟩:=by
   have:=hat.1;cases ad; simp at this; simp [this]
  rw [<- he] at h3;exact⟨cv,by simp [execOp,Instr.loadAt,Instr.sureAddr,e,h3],h4⟩

theorem ORel.cells {j:J}{w:World}{id:Nat}{xs:List D}(h:ORel j w id (.cells xs)):Loc1 j w (j.out id) xs:=h

theorem Cert.loadP {t:TypeId}{ti:TI}{x:Operand}{id off:Nat}{xs:List D}{v:A}(hT:mkTI P t=some ti) (hk:ti.k.isO=false) (hx:ev ts x=.a (.d (.ptr id off))) (hh:h id=some (.cells xs)) (hv:loadA ti xs off=some v) :
  Cert P (mk dst (.load t x) ty pos aft g) ts ls h { rh:=true } (.a v) ls h :=
 PureE.cert ⟨rfl,rfl,fun L H _ hH j w jl a hl ho=>by
  have h1:=ho x (by simp [Op.operands]);rw [hx] at h1;obtain⟨e,_⟩:=rel_ptr h1;rw [hH rfl] at hl;obtain⟨cv,h3,h4⟩:=loadVar_rel (P:=P) (hl.1.obj id _ hh).2.cells.cells hT (K.ne_other hk) hv;rw [Nat.zero_add] at h3;exact⟨cv,by simp [execOp,Instr.loadAt,Instr.sureAddr,e,h3],h4⟩⟩

theorem struct_of {P:Program}{t:TypeId}{ti:TI}{fs:List (Nat×TypeId)}(hT:mkTI P t=some ti) (hk:ti.k=.struct fs) :
  ∃gs:Array Field,P.underlying t=some (.struct gs)/\gs.toList.map (fun f=>(f.offset,f.type))=fs:=by
 obtain⟨i,d,h1,h2,_,_,h3,_⟩:=mkTI_spec hT;rw [hk] at h3;cases d<;>simp [kOf] at h3;exact⟨_,h2,h3⟩

theorem fieldAt_run {P:Program}{t:TypeId}{ti fi:TI}{fs:List (Nat×TypeId)}{f o:Nat}{ft:TypeId}(hT:mkTI P t=some ti) (hk:ti.k=.struct fs) (hf:fs[f]?=some (o,ft)) (hF:mkTI P ft=some fi) (hz:fi.size≠0)
  (a:Addr) (w:World):(Instr.fieldAt t (.pointer (some a)) f).run P w=.ok (.pointer (some (a.add o))) w:=by
 obtain⟨gs,hu,he⟩:=struct_of hT hk;have hg:∃fd:Field,gs[f]?=some fd/\fd.offset=o/\fd.type=ft:=by
  rw [<- he,List.getElem?_map] at hf;cases e:gs.toList[f]? with
  | none=>rw [e] at hf; simp at hf
  | some fd=>rw [e] at hf; simp at hf; exact⟨fd,by simpa using e,hf.1,hf.2⟩
 obtain⟨fd,h1,h2,h3⟩:=hg;simp [Instr.fieldAt,run_under hu,h1,Instr.sureAddr,fieldPlace,h3,sizeOf_run hF,hz,h2]

theorem Cert.fieldL {t:TypeId}{ti fi:TI}{fs:List (Nat×TypeId)}{x:Operand}{f o i off:Nat}{ft:TypeId}(hT:mkTI P t=some ti) (hk:ti.k=.struct fs) (hf:fs[f]?=some (o,ft)) (hF:mkTI P ft=some fi)
  (hz:Nat.beq fi.size 0=false) (hx:ev ts x=.lptr i off):Cert P (mk dst (.fieldAddr t x f) ty pos aft g) ts ls h {} (.lptr i (off+o)) ls h :=
 Cert.of_ops fun j w jl a ho=>by
  have h1:=ho x (by simp [Op.operands]);rw [hx] at h1;obtain⟨b,hb,e⟩:=rel_lptr h1;exact⟨.pointer (some ⟨b,off+o,none⟩),by simp [execOp,e,fieldAt_run hT hk hf hF (fun e=>by rw [e] at hz; simp at hz),add_plain],b,hb,rfl⟩

theorem Cert.fieldP {t:TypeId}{ti fi:TI}{fs:List (Nat×TypeId)}{x:Operand}{f o id off:Nat}{ft:TypeId}(hT:mkTI P t=some ti) (hk:ti.k=.struct fs) (hf:fs[f]?=some (o,ft)) (hF:mkTI P ft=some fi)
  (hz:Nat.beq fi.size 0=false) (hx:ev ts x=.a (.d (.ptr id off))):Cert P (mk dst (.fieldAddr t x f) ty pos aft g) ts ls h {} (.a (.d (.ptr id (off+o)))) ls h :=
 Cert.of_ops fun j w jl a ho=>by
  have h1:=ho x (by simp [Op.operands]);rw [hx] at h1;obtain⟨e,hi⟩:=rel_ptr h1;exact⟨.pointer (some ⟨j.out id,off+o,none⟩),by simp [execOp,e,fieldAt_run hT hk hf hF (fun e=>by rw [e] at hz; simp at hz),add_plain],DRel.ptr _ _ hi⟩

theorem DRel.view_drop {j:J}{w:World}{xs:List D}{a:Addr}{f:Nat->Value}(hat:At j w a xs.length f) (hr:∀i (h:i<xs.length),DRel j w xs[i] (f i)) (n:Nat):DRel j w (.view (xs.drop n)) (.pointer (some (a.add n))):=by
 have ha:a=⟨a.block,a.off,none⟩:=by have:=hat.1; cases a; simp at this; simp [this]
 rw [ha,add_plain];refine DRel.view (xs.drop n) _ (fun i=>f (n+i)) ⟨rfl,fun i hi=>?_⟩ fun i hi=>?_
 ·simp only [List.length_drop] at hi;have:=hat.2 (n+i) (by omega);rw [<- Nat.add_assoc] at this; exact this
 ·simp only [List.length_drop] at hi;have:=hr (n+i) (by omega)
  simpa using this

theorem Cert.fieldV {t:TypeId}{ti fi:TI}{fs:List (Nat×TypeId)}{x:Operand}{f o:Nat}{xs ys:List D}{ft:TypeId}(hT:mkTI P t=some ti) (hk:ti.k=.struct fs) (hf:fs[f]?=some (o,ft)) (hF:mkTI P ft=some fi)
  (hz:Nat.beq fi.size 0=false) (hx:ev ts x=.a (.d (.view xs))) (hy:xs.drop o=ys):Cert P (mk dst (.fieldAddr t x f) ty pos aft g) ts ls h {} (.a (.d (.view ys))) ls h :=
 Cert.of_ops fun j w jl a ho=>by
  have h1:=ho x (by simp [Op.operands]);rw [hx] at h1;obtain⟨ad,f',e,hat,hr⟩:=rel_view h1;subst hy;exact⟨_,by simp [execOp,e,fieldAt_run hT hk hf hF (fun e=>by rw [e] at hz; simp at hz)],DRel.view_drop hat hr o⟩

theorem rel_slice {j:J}{w:World}{jl:List Nat}{k:Nat}{tok:Option Nat}{nl:Bool}{rows:List (List D)}{cv:Value}(h:VRel j w jl (.a (.d (.slice k tok nl rows))) cv) :
  ∃a cap,cv=.slice a rows.length cap/\rows.length<=maxN/\rows.length<=cap/\(nl=a.isNone)/\(a=none->cap=0/\rows=[])/\(∀r,r∈rows->r.length=k) /\
   ∀b,a=some b->TokOk j tok rows.length b cap/\∃f,AtS j w b rows f/\∀i (h:i<rows.flatten.length),DRel j w rows.flatten[i] (f i):=by
 have h':DRel j w (.slice k tok nl rows) cv:=h;cases h' with
 | snil _ _ ht=>exact⟨none,0,rfl,by simp [maxN],by simp,rfl,fun _=>⟨rfl,rfl⟩,by simp,by simp⟩
 | slice _ _ _ a cap f hk hn hc hat hr ht=>exact⟨some a,cap,rfl,hn,hc,rfl,by simp,hk,fun b e=>by simp at e; subst e; exact⟨ht,f,hat,hr⟩⟩

theorem flatten_row {rows:List (List D)}{k:Nat}(hk:∀r∈rows,r.length=k):rows.flatten.length=rows.length*k/\∀i row,rows[i]?=some row->∀n,n<k->rows.flatten[i*k+n]?=row[n]?:=by
 induction rows with
 | nil=>simp
 | cons r rs ih =>
  have hr:r.length=k:=hk r (by simp);obtain⟨h1,h2⟩:=ih fun x hx=>hk x (by simp [hx]);refine⟨by simp [h1,hr,Nat.succ_mul,Nat.add_comm],fun i row hi n hn=>?_⟩;cases i with
  | zero =>
   simp at hi; subst hi;rw [List.flatten_cons,Nat.zero_mul,Nat.zero_add,List.getElem?_append_left (by omega)]
  | succ i =>
   simp only [List.getElem?_cons_succ] at hi;rw [List.flatten_cons,List.getElem?_append_right (by rw [hr,Nat.succ_mul]; omega)];rw [show (i+1)*k+n-r.length=i*k+n by rw [hr,Nat.succ_mul]; omega];exact h2 i row hi n hn

theorem elem_view {j:J}{w:World}{k:Nat}{rows:List (List D)}{b:Addr}{f:Nat->Value}(hk:∀r∈rows,r.length=k) (hat:AtS j w b rows f) (hr:∀i (h:i<rows.flatten.length),DRel j w rows.flatten[i] (f i))
  {i:Nat}{row:List D}(hi:rows[i]?=some row):DRel j w (.view row) (.pointer (some (b.add (i*k)))):=by
 obtain⟨h1,h2⟩:=flatten_row hk;have hlen:row.length=k:=hk row (List.mem_of_getElem? hi);have hb:b=⟨b.block,b.off,none⟩:=by have:=hat.1.resolve_left (fun e=>by rw [e] at hi; simp at hi); cases b; simp at this; simp [this]
 have hlt:i<rows.length:=(List.getElem?_eq_some_iff.1 hi).1;have hle:i*k+k<=rows.flatten.length:=by
  rw [h1,<- Nat.succ_mul]; exact Nat.mul_le_mul_right k hlt
 rw [hb,add_plain];refine DRel.view row _ (fun n=>f (i*k+n)) ⟨rfl,fun n hn=>?_⟩ fun n hn=>?_
 ·have:=hat.2 (i*k+n) (by omega);rw [<- Nat.add_assoc] at this; exact this
 ·have h3:=hr (i*k+n) (by omega);have h4:=h2 i row hi n (by omega);rw [List.getElem?_eq_getElem (by omega),List.getElem?_eq_getElem hn] at h4;simp only [Option.some.injEq] at h4;rw [h4] at h3; exact h3

theorem slice_of {P:Program}{t:TypeId}{ti:TI}{e:TypeId}(hT:mkTI P t=some ti) (hk:ti.k=.slice e):P.underlying t=some (.slice e):=by
 obtain⟨i,d,h1,h2,_,_,h3,_⟩:=mkTI_spec hT;rw [hk] at h3;cases d<;>simp [kOf] at h3;subst h3; exact h2

theorem Cert.indexA {t e:TypeId}{ti ei:TI}{x ix:Operand}{tok:Option Nat}{nl:Bool}{rows:List (List D)}{ik:IntKind}{n:Int}{row:List D}{k:Nat}(hT:mkTI P t=some ti) (hk:ti.k=.slice e) (hE:mkTI P e=some ei)
  (hx:ev ts x=.a (.d (.slice k tok nl rows))) (hi:ev ts ix=.a (.d (.int ik n))) (hkk:k=ei.size) (h0:0<=n) (hr:rows[n.toNat]?=some row) :
  Cert P (mk dst (.indexAddr t x ix) ty pos aft g) ts ls h {} (.a (.d (.view row))) ls h :=
 Cert.of_ops fun j w jl a ho=>by
  have h1:=ho x (by simp [Op.operands]);have h2:=ho ix (by simp [Op.operands]);rw [hx] at h1; rw [hi] at h2;obtain⟨b,cap,e1,hn,hc,hnil,hnone,hkr,hb⟩:=rel_slice h1;have hlt:n.toNat<rows.length:=(List.getElem?_eq_some_iff.1 hr).1;cases b with
  | none=>obtain⟨_,e2⟩:=hnone rfl; rw [e2] at hlt; simp at hlt
  | some b =>
   obtain⟨_,f,hat,hrr⟩:=hb b rfl;refine⟨_, ?_,elem_view hkr hat hrr hr⟩;have hlt2:n<(rows.length:Int):=by omega
   simp [execOp,e1,rel_int h2,Instr.indexAt,asIntOf,run_under (slice_of hT hk),sizeOf_run hE,h0,hlt2,hkk]
end
end Go.Ab

/-
 Arithmetic,comparisons,lengths,structs.
-/
namespace Go.Ab
open Go Go.RowKit
variable {lou:Lou}
section
variable {P:Program}{ts:Ts}{ls:List (List D)}{h:Heap}{dst:Option Tmp}{ty:TypeId}{pos:String}{aft:Array Edge}{g:Option (Nat×Bool)}

theorem eqGuard_int {op:BinOp}{t:TypeId}{x y:Operand}{k:IntKind}{m n:Int}(w:World):(eqGuard op t x y (.int k m) (.int k n)).run P w=.ok () w:=by
 unfold eqGuard;cases op<;>simp
theorem eqGuard_str {op:BinOp}{t:TypeId}{x y:Operand}{m n:ByteArray}(w:World):(eqGuard op t x y (.string m) (.string n)).run P w=.ok () w:=by
 unfold eqGuard;cases op<;>simp
def intV (op:BinOp) (k:IntKind) (m n:Int):Option D :=
 match op with
 | .add=>some (.int k (k.wrap (m+n)))
 | .sub=>some (.int k (k.wrap (m-n)))
 | .mul=>some (.int k (k.wrap (m*n)))
 | .eql=>some (.bool (decide (m=n)))
 | .neq=>some (.bool (!decide (m=n)))
 | .lss=>some (.bool (decide (m<n)))
 | .leq=>some (.bool (decide (m<=n)))
 | .gtr=>some (.bool (decide (n<m)))
 | .geq=>some (.bool (decide (n<=m)))
 | _=>none

theorem intV_run {op:BinOp}{t:TypeId}{k:IntKind}{m n:Int}{r:D}(hr:intV op k m n=some r) (w:World):∃cv,(binOp op t (.int k m) (.int k n)).run P w=.ok cv w/\∀j w,DRel j w r cv:=by
 cases op<;>simp only [intV,Option.some.injEq] at hr<;>first|(subst hr)|(cases hr; done)
 ·exact⟨_,by simp [binOp,Op.intArith],fun _ _=>.int _ _⟩
 ·exact⟨_,by simp [binOp,Op.intArith],fun _ _=>.int _ _⟩
 ·exact⟨_,by simp [binOp,Op.intArith],fun _ _=>.int _ _⟩
 ·exact⟨.bool (decide (m=n)),by simp [binOp,Op.intCmp]; first|rfl|(by_cases e:m=n<;>simp [e]),fun _ _=>.bool _⟩
 ·exact⟨.bool (!decide (m=n)),by simp [binOp,Op.intCmp]; first|rfl|(by_cases e:m=n<;>simp [e]),fun _ _=>.bool _⟩
 ·exact⟨.bool (decide (m<n)),by simp [binOp,Op.intCmp],fun _ _=>.bool _⟩
 ·exact⟨.bool (decide (m<=n)),by simp [binOp,Op.intCmp],fun _ _=>.bool _⟩
 ·exact⟨.bool (decide (n<m)),by simp [binOp,Op.intCmp],fun _ _=>.bool _⟩
 ·exact⟨.bool (decide (n<=m)),by simp [binOp,Op.intCmp],fun _ _=>.bool _⟩

theorem Cert.binI {op:BinOp}{t u:TypeId}{x y:Operand}{k:IntKind}{m n:Int}{r:D}(hx:ev ts x=.a (.d (.int k m))) (hy:ev ts y=.a (.d (.int k n))) (hr:intV op k m n=some r) :
  Cert P (mk dst (.binOp op t x y u) ty pos aft g) ts ls h {} (.a (.d r)) ls h :=
 Cert.of_ops fun j w jl a ho=>by
  have h1:=ho x (by simp [Op.operands]);have h2:=ho y (by simp [Op.operands]);rw [hx] at h1; rw [hy] at h2;obtain⟨cv,h3,h4⟩:=intV_run (P:=P) (t:=t) hr w;exact⟨cv,by simp [execOp,rel_int h1,rel_int h2,eqGuard_int,h3],h4 j w⟩

theorem Cert.addI {t u:TypeId}{x y:Operand}{m n:Int}(hx:ev ts x=.a (.d (.int .i64 m))) (hy:ev ts y=.a (.d (.int .i64 n))) (h1 : -9223372036854775808<=m+n) (h2:m+n<=9223372036854775807) :
  Cert P (mk dst (.binOp .add t x y u) ty pos aft g) ts ls h {} (.a (.d (.int .i64 (m+n)))) ls h :=
 Cert.binI hx hy (by simp only [intV,Option.some.injEq,D.int.injEq,true_and]; simp only [IntKind.wrap,IntKind.bits,IntKind.signed]; simp; omega)
def strV (op:BinOp) (s t:List UInt8):Option D :=
 match op with
 | .eql=>some (.bool (s==t))
 | .neq=>some (.bool (!(s==t)))
 | .lss=>some (.bool (Op.bytesLess s t))
 | .leq=>some (.bool (Op.bytesLess s t||s==t))
 | .gtr=>some (.bool (!(Op.bytesLess s t||s==t)))
 | .geq=>some (.bool (!Op.bytesLess s t))
 | _=>none

theorem strV_run {op:BinOp}{t:TypeId}{a b:List UInt8}{r:D}(hr:strV op a b=some r) (w:World):∃cv,(binOp op t (.string ⟨a.toArray⟩) (.string ⟨b.toArray⟩)).run P w=.ok cv w/\∀j w,DRel j w r cv:=by
 cases op<;>simp only [strV,Option.some.injEq] at hr<;>first|(subst hr)|(cases hr; done)
 all_goals exact⟨_,by simp [binOp,Op.stringOp,ByteArray.toList_mk],fun _ _=>.bool _⟩

theorem Cert.binS {op:BinOp}{t u:TypeId}{x y:Operand}{a b:List UInt8}{r:D}(hx:ev ts x=.a (.d (.str a))) (hy:ev ts y=.a (.d (.str b))) (hr:strV op a b=some r) :
  Cert P (mk dst (.binOp op t x y u) ty pos aft g) ts ls h {} (.a (.d r)) ls h :=
 Cert.of_ops fun j w jl act ho=>by
  have h1:=ho x (by simp [Op.operands]);have h2:=ho y (by simp [Op.operands]);rw [hx] at h1; rw [hy] at h2;obtain⟨cv,h3,h4⟩:=strV_run (P:=P) (t:=t) hr w;exact⟨cv,by simp [execOp,(rel_str h1).1,(rel_str h2).1,eqGuard_str,h3],h4 j w⟩

theorem Cert.concat {t u:TypeId}{x y:Operand}{a b:List UInt8}(hx:ev ts x=.a (.d (.str a))) (hy:ev ts y=.a (.d (.str b))) (hl:a.length+b.length<=maxS) :
  Cert P (mk dst (.binOp .add t x y u) ty pos aft g) ts ls h {} (.a (.d (.str (a++b)))) ls h :=
 Cert.of_ops fun j w jl act ho=>by
  have h1:=ho x (by simp [Op.operands]);have h2:=ho y (by simp [Op.operands]);rw [hx] at h1; rw [hy] at h2;refine⟨.string ⟨(a++b).toArray⟩, ?_,DRel.str _ (by simpa using hl)⟩;have hlt:(⟨a.toArray⟩:ByteArray).size+(⟨b.toArray⟩:ByteArray).size<=9223372036854775807:=by
   show a.toArray.size+b.toArray.size<=_; simp only [List.size_toArray]; unfold maxS at hl; omega
  have hrun:=run_string_add_sum (P:=P) w ⟨a.toArray⟩ ⟨b.toArray⟩ hlt;have e:(⟨a.toArray⟩:ByteArray)++⟨b.toArray⟩=⟨(a++b).toArray⟩:=by
   apply ByteArray.ext; simp
  rw [e] at hrun;simp [execOp,(rel_str h1).1,(rel_str h2).1,eqGuard_str,binOp,hrun]

theorem Cert.notB {t:TypeId}{x:Operand}{b:Bool}(hx:ev ts x=.a (.d (.bool b))):Cert P (mk dst (.unOp .not t x) ty pos aft g) ts ls h {} (.a (.d (.bool (!b)))) ls h :=
 Cert.of_ops fun j w jl act ho=>by
  have h1:=ho x (by simp [Op.operands]);rw [hx] at h1;exact⟨_,by simp [execOp,rel_bool h1,Op.unary],DRel.bool _⟩

theorem Cert.lenA {t e:TypeId}{ti:TI}{x:Operand}{ats:Array TypeId}{k:Nat}{tok:Option Nat}{nl:Bool}{rows:List (List D)}(hT:mkTI P t=some ti) (hk:ti.k=.slice e) (hat:ats[0]?=some t)
  (hx:ev ts x=.a (.d (.slice k tok nl rows))):Cert P (mk dst (.call { callee:=.builtin .len,args:=#[x],argTypes:=ats }) ty pos aft g) ts ls h {} (.a (.d (.int .i64 (rows.length:Int)))) ls h :=
 Cert.of_ops fun j w jl act ho=>by
  have h1:=ho x (by simp [Op.operands,Call.operands]);rw [hx] at h1;obtain⟨b,cap,e1,_⟩:=rel_slice h1;exact⟨_,by simp [execOp,resolve,invoke,builtin,e1,Builtin.len_,hat,run_under (slice_of hT hk),goInt],DRel.int _ _⟩

theorem str_of {P:Program}{t:TypeId}{ti:TI}(hT:mkTI P t=some ti) (hk:ti.k=.str):P.underlying t=some .string:=by
 obtain⟨i,d,h1,h2,_,_,h3,_⟩:=mkTI_spec hT;rw [hk] at h3;cases d<;>simp [kOf] at h3;exact h2

theorem size_mk (s:List UInt8):(⟨s.toArray⟩:ByteArray).size=s.length:=by
 show s.toArray.size=s.length;simp

theorem Cert.lenS {t:TypeId}{ti:TI}{x:Operand}{ats:Array TypeId}{s:List UInt8}(hT:mkTI P t=some ti) (hk:ti.k=.str) (hat:ats[0]?=some t)
  (hx:ev ts x=.a (.d (.str s))):Cert P (mk dst (.call { callee:=.builtin .len,args:=#[x],argTypes:=ats }) ty pos aft g) ts ls h {} (.a (.d (.int .i64 (s.length:Int)))) ls h :=
 Cert.of_ops fun j w jl act ho=>by
  have h1:=ho x (by simp [Op.operands,Call.operands]);rw [hx] at h1;refine⟨_, ?_,DRel.int _ _⟩;simp [execOp,resolve,invoke,builtin,(rel_str h1).1,Builtin.len_,hat,run_under (str_of hT hk),goInt,size_mk]

theorem Cert.indexS {t:TypeId}{ti:TI}{x ix:Operand}{s:List UInt8}{ik:IntKind}{n:Int}{c:UInt8}(hT:mkTI P t=some ti) (hk:ti.k=.str) (hx:ev ts x=.a (.d (.str s))) (hi:ev ts ix=.a (.d (.int ik n)))
  (h0:0<=n) (hc:s[n.toNat]?=some c):Cert P (mk dst (.index t x ix) ty pos aft g) ts ls h {} (.a (.d (.int .u8 (c.toNat:Int)))) ls h :=
 Cert.of_ops fun j w jl act ho=>by
  have h1:=ho x (by simp [Op.operands]);have h2:=ho ix (by simp [Op.operands]);rw [hx] at h1; rw [hi] at h2;have hlt:n.toNat<s.length:=(List.getElem?_eq_some_iff.1 hc).1;have hrun:=run_index_string (P:=P) w t ⟨s.toArray⟩ ik n (str_of hT hk);rw [dif_pos ⟨h0,by rw [size_mk]; omega⟩] at hrun;refine⟨_, ?_,DRel.int _ _⟩;have hb:(⟨s.toArray⟩:ByteArray)[n.toNat]'(by rw [size_mk]; omega)=c:=by
   have:=(List.getElem?_eq_some_iff.1 hc).2;rw [<- this]; rfl
  rw [hb] at hrun;simp [execOp,(rel_str h1).1,rel_int h2,hrun]

def cut (s:List UInt8) (l r:Nat):List UInt8:=(s.drop l).take (r-l)

theorem extract_mk (s:List UInt8) (l r:Nat):(⟨s.toArray⟩:ByteArray).extract l r=⟨(cut s l r).toArray⟩:=by
 apply ByteArray.ext
 apply Array.ext'
 simp [cut]

def loOf (ts:Ts):Option Operand->Option Nat
 | none=>some 0
 | some x=>match ev ts x with
  | .a (.d (.int _ n))=>if 0<=n then some n.toNat else none
  | _=>none

theorem bound_run {ts:Ts}{j:J}{w:World}{jl:List Nat}{act:Act}{x:Operand}{k:IntKind}{n:Int}{cap:Nat}(hx:ev ts x=.a (.d (.int k n))) (ho:VRel j w jl (ev ts x) (act.eval x)) (h0:0<=n) (h1:n<=(cap:Int)) (code:BoundsCode) :
  (Instr.sliceBound (act.eval x) cap code).run P w=.ok n.toNat w:=by
 rw [hx] at ho;rw [rel_int ho];exact run_sliceBound w k n cap code h0 h1

theorem Cert.cutLH {t:TypeId}{ti:TI}{x lo hi:Operand}{s:List UInt8}{k k':IntKind}{l r:Int}(hT:mkTI P t=some ti) (hk:ti.k=.str) (hx:ev ts x=.a (.d (.str s))) (hl:ev ts lo=.a (.d (.int k l))) (hh:ev ts hi=.a (.d (.int k' r)))
  (h0:0<=l) (h1:l<=r) (h2:r<=(s.length:Int)):Cert P (mk dst (.slice t x (some lo) (some hi) none) ty pos aft g) ts ls h {} (.a (.d (.str (cut s l.toNat r.toNat)))) ls h :=
 Cert.of_ops fun j w jl act ho=>by
  have e1:=ho x (by simp [Op.operands]);have e2:=bound_run (P:=P) (cap:=r.toNat) hl (ho lo (by simp [Op.operands])) h0 (by omega) .sliceB;have e3:=bound_run (P:=P) (cap:=s.length) hh (ho hi (by simp [Op.operands])) (by omega) h2 .sliceAlen;rw [hx] at e1;refine⟨.string ⟨(cut s l.toNat r.toNat).toArray⟩, ?_,DRel.str _ (by have:=(rel_str e1).2; simp [cut]; omega)⟩;simp [execOp,(rel_str e1).1,Instr.sliceAt,Instr.slice,Instr.sliceBounds,run_under (str_of hT hk),size_mk,e2,e3]
  exact extract_mk _ _ _

theorem Cert.cutL {t:TypeId}{ti:TI}{x lo:Operand}{s:List UInt8}{k:IntKind}{l:Int}(hT:mkTI P t=some ti) (hk:ti.k=.str) (hx:ev ts x=.a (.d (.str s))) (hl:ev ts lo=.a (.d (.int k l)))
  (h0:0<=l) (h1:l<=(s.length:Int)):Cert P (mk dst (.slice t x (some lo) none none) ty pos aft g) ts ls h {} (.a (.d (.str (s.drop l.toNat)))) ls h :=
 Cert.of_ops fun j w jl act ho=>by
  have e1:=ho x (by simp [Op.operands]);have e2:=bound_run (P:=P) (cap:=s.length) hl (ho lo (by simp [Op.operands])) h0 h1 .sliceB;rw [hx] at e1;refine⟨.string ⟨(s.drop l.toNat).toArray⟩, ?_,DRel.str _ (by have:=(rel_str e1).2; simp; omega)⟩;simp [execOp,(rel_str e1).1,Instr.sliceAt,Instr.slice,Instr.sliceBounds,run_under (str_of hT hk),size_mk,e2];rw [extract_mk]; unfold cut; rw [List.take_of_length_le (by simp)]

theorem Cert.cutH {t:TypeId}{ti:TI}{x hi:Operand}{s:List UInt8}{k:IntKind}{r:Int}(hT:mkTI P t=some ti) (hk:ti.k=.str) (hx:ev ts x=.a (.d (.str s))) (hh:ev ts hi=.a (.d (.int k r)))
  (h0:0<=r) (h1:r<=(s.length:Int)):Cert P (mk dst (.slice t x none (some hi) none) ty pos aft g) ts ls h {} (.a (.d (.str (s.take r.toNat)))) ls h :=
 Cert.of_ops fun j w jl act ho=>by
  have e1:=ho x (by simp [Op.operands]);have e2:=bound_run (P:=P) (cap:=s.length) hh (ho hi (by simp [Op.operands])) h0 h1 .sliceAlen;rw [hx] at e1;refine⟨.string ⟨(s.take r.toNat).toArray⟩, ?_,DRel.str _ (by have:=(rel_str e1).2; simp; omega)⟩;simp [execOp,(rel_str e1).1,Instr.sliceAt,Instr.slice,Instr.sliceBounds,run_under (str_of hT hk),size_mk,e2];rw [extract_mk]; simp [cut]

theorem Cert.extract {x:Operand}{i:Nat}{xs:List A}{v:A}(hx:ev ts x=.tup xs) (hv:xs[i]?=some v):Cert P (mk dst (.extract x i) ty pos aft g) ts ls h {} (.a v) ls h :=
 Cert.of_ops fun j w jl act ho=>by
  have h1:=ho x (by simp [Op.operands]);rw [hx] at h1;obtain⟨cs,e,hr⟩:=h1;obtain⟨cv,h2,h3⟩:=hr.get hv;exact⟨cv,by simp [execOp,Instr.extract,e,h2],h3⟩

theorem Cert.nilP {x:Operand}{id off:Nat}(hx:ev ts x=.a (.d (.ptr id off))):Cert P (mk dst (.nilCheck x) ty pos aft g) ts ls h {} (.a (.d (.ptr id off))) ls h :=
 Cert.of_ops fun j w jl act ho=>by
  have h1:=ho x (by simp [Op.operands]);rw [hx] at h1;obtain⟨e,hi⟩:=rel_ptr h1;exact⟨_,by simp [execOp,e],DRel.ptr _ _ hi⟩
def evD (ts:Ts) (x:Operand):Option D:=match ev ts x with
 | .a (.d y)=>some y
 | _=>none
def evDs (ts:Ts):List Operand->Option (List D)
 | []=>some []
 | x::r=>match evD ts x,evDs ts r with
  | some y,some ys=>some (y::ys)
  | _,_=>none
theorem evDs_rel {j:J}{w:World}{jl:List Nat}{act:Act}:∀(l:List Operand) (xs:List D),evDs ts l=some xs->(∀x,x∈l->VRel j w jl (ev ts x) (act.eval x))->All2 (DRel j w) xs (l.map act.eval)
 | [],xs,h,_=>by simp [evDs] at h; subst h; exact .nil
 | x::r,xs,h,ho=>by
  simp only [evDs] at h
  split at h
  ·rename_i y ys h1 h2
   simp at h; subst h;refine .cons ?_ (evDs_rel r ys h2 fun z hz=>ho z (by simp [hz]));have:=ho x (by simp);unfold evD at h1
   split at h1
   ·rename_i z hz; simp at h1; subst h1; rw [hz] at this; exact this
   ·simp at h1
  ·simp at h

theorem Cert.makeFunc {f:FuncId}{caps:Array Operand}{xs:List D}(hx:evDs ts caps.toList=some xs):Cert P (mk dst (.makeFunc (.func f) #[] caps) ty pos aft g) ts ls h {} (.a (.d (.func f xs))) ls h :=
 Cert.of_ops fun j w jl act ho=>by
  have h1:=evDs_rel (j:=j) (w:=w) (jl:=jl) (act:=act) caps.toList xs hx fun x hx=>ho x (by simp [Op.operands] at hx ⊢; exact hx);refine⟨.func (.func f) #[] (caps.toList.map act.eval).toArray, ?_,DRel.func f xs _ h1.length fun i hi hi'=>?_⟩
  ·simp [execOp,Instr.makeFunc]
   apply Array.ext'; simp
  ·obtain⟨y,hy,hr⟩:=h1.get (List.getElem?_eq_getElem hi);rw [List.getElem?_eq_getElem hi'] at hy;simp only [Option.some.injEq] at hy;rw [hy]; exact hr
end
end Go.Ab

/-
 Structs and slices that are built,variables,objects,calls.
-/
namespace Go.Ab
open Go Go.RowKit
variable {lou:Lou}

inductive Snoc {α:Type}(x:α):List α->Nat->List α->Prop where
 | nil:Snoc x [] 0 [x]
 | cons {a:α}{l l':List α}{n:Nat}(h:Snoc x l n l'):Snoc x (a::l) (n+1) (a::l')
theorem Snoc.spec {α:Type}{x:α}{l l':List α}{n:Nat}(h:Snoc x l n l'):n=l.length/\l'=l++[x]:=by
 induction h with
 | nil=>exact⟨rfl,rfl⟩
 | cons _ ih=>exact⟨by simp [ih.1],by simp [ih.2]⟩
inductive SetAt {α:Type}(x:α):List α->Nat->List α->Prop where
 | zero {a:α}{l:List α}:SetAt x (a::l) 0 (x::l)
 | succ {a:α}{l l':List α}{n:Nat}(h:SetAt x l n l'):SetAt x (a::l) (n+1) (a::l')
theorem SetAt.spec {α:Type}{x:α}{l l':List α}{n:Nat}(h:SetAt x l n l'):n<l.length/\l'=l.set n x:=by
 induction h with
 | zero=>exact⟨by simp,rfl⟩
 | succ _ ih=>exact⟨by simp [ih.1],by simp [ih.2]⟩

theorem Cert.of_run {P:Program}{o:Oper}{ts:Ts}{ls ls':List (List D)}{h h':Heap}{fx:Fx}{v:V}
  (hp:∀L H,((fx.rl||fx.wl)=true->L=ls)->((fx.rh||fx.wh)=true->H=h)->∀(j:J) (w:World) (jl:List Nat) (a:Act),HL j w jl L H->(∀x,x∈o.op.operands->VRel j w jl (ev ts x) (a.eval x)) ->
   ∃r w' cv j' jl',(execOp a.eval o).run P w=.ok r w'/\(r=.value cv\/(r=.skip/\cv=undef))/\VRel j' w' jl' v cv/\HL j' w' jl' (bif fx.wl then ls' else L) (bif fx.wh then h' else H)/\Ext jl jl' /\
    Evolve j w (Own j H jl) j' w' (Own j' (bif fx.wh then h' else H) jl')):Cert P o ts ls h fx v ls' h':=by
 intro L H hL hH j w jl a hl ho K Q hk;obtain⟨r,w',cv,j',jl',hrun,hr,hv,hl',hx,hev⟩:=hp L H hL hH j w jl a hl ho;unfold Oper.wp;rw [hrun];rcases hr with hr|⟨hr,hu⟩
 ·subst hr; rw [Oper.upon_value]; exact hk v _ _ cv j' w' jl' ⟨rfl,rfl,rfl⟩ hv hl' hx hev
 ·subst hr; subst hu; rw [Oper.upon_skip]; exact hk v _ _ undef j' w' jl' ⟨rfl,rfl,rfl⟩ hv hl' hx hev

theorem Ext.snoc (jl:List Nat) (b:Nat):Ext jl (jl++[b]):=fun i x hx=>by
 rw [List.getElem?_append_left (List.getElem?_eq_some_iff.1 hx).1]; exact hx

section
variable {P:Program}{ts:Ts}{ls:List (List D)}{h:Heap}{dst:Option Tmp}{ty:TypeId}{pos:String}{aft:Array Edge}{g:Option (Nat×Bool)}

theorem Cert.locOf {o:Oper}{e:TypeId}{x:A}{i:Nat}{ls':List (List D)}(hs:Snoc (cellsA x) ls i ls')
  (hrun:∀(j:J) (w:World) (jl:List Nat) (a:Act),(∀x,x∈o.op.operands->VRel j w jl (ev ts x) (a.eval x))->∃v,ARel j w x v/\(execOp a.eval o).run P w=.ok (.value (.pointer (some ⟨w.heap.size,0,none⟩))) (w.alloc (.cells v.cells e))) :
  Cert P o ts ls h { wl:=true } (.lptr i 0) ls' h:=by
 refine Cert.of_run fun L H hL _ j w jl a hl ho=>?_;obtain⟨e1,e2⟩:=hs.spec;have hL':=hL rfl;subst hL';obtain⟨v,hv,hr⟩:=hrun j w jl a ho;obtain⟨h1,h2⟩:=hl.loc v.cells.toList e (cellsA x) hv.cells;rw [Array.toArray_toList] at h1 h2;refine⟨_,_,.pointer (some ⟨w.heap.size,0,none⟩),j,jl++[w.heap.size],hr,.inl rfl,⟨w.heap.size, ?_,rfl⟩, ?_,Ext.snoc _ _,h2⟩
 ·rw [e1,hl.2.each.length]; simp
 ·rw [e2]; exact h1

theorem Cert.allocL {e:TypeId}{ti:TI}{z:A}{i:Nat}{ls':List (List D)}(hT:mkTI P e=some ti) (hz:ti.zero=some z) (hs:Snoc (cellsA z) ls i ls') :
  Cert P (mk dst (.alloc e) ty pos aft g) ts ls h { wl:=true } (.lptr i 0) ls' h:=by
 obtain⟨inf,d,h1,_,_,_,_,h2⟩:=mkTI_spec hT;rw [hz] at h2;obtain⟨v,h3,h4⟩:=zeroF_rel h2;refine Cert.locOf (e:=e) hs fun j w jl a _=>⟨v,h4 j w, ?_⟩;simp [execOp,Instr.alloc,zeroValue,typeInfo,h1,h3,newVar,newRow]

theorem Cert.boxL {e:TypeId}{x:Operand}{y:A}{i:Nat}{ls':List (List D)}(hx:ev ts x=.a y) (hs:Snoc (cellsA y) ls i ls') :
  Cert P (mk dst (.box e x) ty pos aft g) ts ls h { wl:=true } (.lptr i 0) ls' h :=
 Cert.locOf (e:=e) hs fun j w jl a ho=>by
  have h1:=ho x (by simp [Op.operands]);rw [hx] at h1;exact⟨a.eval x,h1,by simp [execOp,Instr.box,newVar,newRow]⟩

theorem Cert.storeL' {t:TypeId}{ti:TI}{x y:Operand}{i off:Nat}{xs:List D}{v:A}{ls':List (List D)}(hT:mkTI P t=some ti) (hx:ev ts x=.lptr i off) (hy:ev ts y=.a v) (hl:ls[i]?=some xs)
  (hsz:(cellsA v).length=ti.size) (hle:off+ti.size<=xs.length) (hs:SetAt (spl xs off (cellsA v)) ls i ls') (hd:dst=none):Cert P (mk dst (.store t x y) ty pos aft g) ts ls h { wl:=true } .any ls' h:=by
 refine Cert.of_run fun L H hL _ j w jl a hh ho=>?_;have hL':=hL rfl;subst hL';have h1:=ho x (by simp [Op.operands]);have h2:=ho y (by simp [Op.operands]);rw [hx] at h1; rw [hy] at h2;obtain⟨b,hb,e⟩:=rel_lptr h1;obtain⟨b',hb',cs,et,hg,hall,hF⟩:=hh.2.each.get hl;rw [hb] at hb'; simp only [Option.some.injEq] at hb'; subst hb';obtain⟨w',h3,h4⟩:=storeVar_upd (lou:=lou) (P:=P) hg hT h2 hsz (by rw [<- hall.length]; exact hle)
 obtain⟨h5,h6⟩:=hh.setLoc hb hF h4 (hall.spl off h2.cells);obtain⟨_,e2⟩:=hs.spec;refine⟨.skip,w',undef,j,jl, ?_,.inr ⟨rfl,rfl⟩,trivial, ?_,Ext.refl _,h6⟩
 ·simp [execOp,Instr.storeAt,Instr.sureAddr,e,h3]
 ·rw [e2]; exact h5

theorem spl_full {α:Type}:∀(pre l r:List α),l.length=r.length->spl (pre++l) pre.length r=pre++r
 | pre,[],[],_=>by simp [spl]
 | pre,a::l,b::r,h=>by
  have:=spl_full (pre++[b]) l r (by simpa using h);simp only [spl];rw [show (pre++a::l).set pre.length b=(pre++[b])++l by simp [List.set_append]];rw [show pre.length+1=(pre++[b]).length by simp];rw [this]; simp
 | _,[],_::_,h=>by simp at h
 | _,_::_,[],h=>by simp at h

theorem Cert.storeLF {t:TypeId}{ti:TI}{x y:Operand}{i:Nat}{xs ys:List D}{ls':List (List D)}(hT:mkTI P t=some ti) (hx:ev ts x=.lptr i 0) (hy:ev ts y=.a (.agg ys)) (hl:ls[i]?=some xs)
  (hsz:ys.length=ti.size) (hle:xs.length=ti.size) (hs:SetAt ys ls i ls'):Cert P (mk none (.store t x y) ty pos aft g) ts ls h { wl:=true } .any ls' h :=
 Cert.storeL' hT hx hy hl hsz (by omega) (by
  have:=spl_full [] xs ys (by omega);simp only [List.nil_append,List.length_nil] at this;rw [show cellsA (.agg ys)=ys from rfl,this]; exact hs) rfl

theorem Cert.storeL1 {t:TypeId}{ti:TI}{x y:Operand}{i off:Nat}{xs xs':List D}{v:D}{ls':List (List D)}(hT:mkTI P t=some ti) (hx:ev ts x=.lptr i off) (hy:ev ts y=.a (.d v)) (hl:ls[i]?=some xs)
  (hsz:ti.size=1) (hv:SetAt v xs off xs') (hs:SetAt xs' ls i ls'):Cert P (mk none (.store t x y) ty pos aft g) ts ls h { wl:=true } .any ls' h:=by
 obtain⟨h1,h2⟩:=hv.spec;refine Cert.storeL' hT hx hy hl (by rw [hsz]; rfl) (by omega) ?_ rfl;rw [show spl xs off (cellsA (.d v))=xs' by rw [h2]; rfl]; exact hs

theorem Cert.storeP' {t:TypeId}{ti:TI}{x y:Operand}{id off:Nat}{xs ys:List D}{v:A}(hT:mkTI P t=some ti) (hx:ev ts x=.a (.d (.ptr id off))) (hy:ev ts y=.a v) (hl:h id=some (.cells xs))
  (hsz:(cellsA v).length=ti.size) (hle:off+ti.size<=xs.length) (hys:spl xs off (cellsA v)=ys) (hd:dst=none) :
  Cert P (mk dst (.store t x y) ty pos aft g) ts ls h { wh:=true } .any ls (h.set id (some (.cells ys))):=by
 refine Cert.of_run fun L H _ hH j w jl a hh ho=>?_;have hH':=hH rfl;subst hH';have h1:=ho x (by simp [Op.operands]);have h2:=ho y (by simp [Op.operands]);rw [hx] at h1; rw [hy] at h2;obtain⟨e,hid⟩:=rel_ptr h1;obtain⟨cs,et,hg,hall,hF⟩:=(hh.1.obj id _ hl).2;obtain⟨w',h3,h4⟩:=storeVar_upd (lou:=lou) (P:=P) hg hT h2 hsz (by rw [<- hall.length]; exact hle);have hle':=h4.le (j:=j) hF;obtain⟨h5,h6⟩:=hh.setObj (o':=.cells ys) hl rfl rfl hF h4 ⟨_,et,h4.here,by rw [<- hys]; exact(hall.spl off h2.cells).imp fun _ _ h=>h.mono hle',hF⟩
 refine⟨.skip,w',undef,j,jl, ?_,.inr ⟨rfl,rfl⟩,trivial,h5,Ext.refl _,h6⟩;simp [execOp,Instr.storeAt,Instr.sureAddr,e,h3]

theorem Cert.storeP1 {t:TypeId}{ti:TI}{x y:Operand}{id off:Nat}{xs xs':List D}{v:D}(hT:mkTI P t=some ti) (hx:ev ts x=.a (.d (.ptr id off))) (hy:ev ts y=.a (.d v)) (hl:h id=some (.cells xs))
  (hsz:ti.size=1) (hv:SetAt v xs off xs'):Cert P (mk none (.store t x y) ty pos aft g) ts ls h { wh:=true } .any ls (h.set id (some (.cells xs'))):=by
 obtain⟨h1,h2⟩:=hv.spec;exact Cert.storeP' hT hx hy hl (by rw [hsz]; rfl) (by omega) (by rw [h2]; rfl) rfl

theorem stepE_obj {o:Oper}{e:TypeId}{x:A}(hrun:∀(j:J) (w:World) (jl:List Nat) (a:Act),(∀x,x∈o.op.operands->VRel j w jl (ev ts x) (a.eval x))->∃v,ARel j w x v/\(execOp a.eval o).run P w=.ok (.value (.pointer (some ⟨w.heap.size,0,none⟩))) (w.alloc (.cells v.cells e))) :
  StepE P o ts ls h fun v ls' h'=>∃id,h id=none/\v=.a (.d (.ptr id 0))/\ls'=ls/\h'=h.set id (some (.cells (cellsA x))):=by
 intro j w jl a hl ho K Q hk;obtain⟨v,hv,hr⟩:=hrun j w jl a ho;have hle:Le j w (j.obj w.heap.size) (w.alloc (.cells v.cells e)) :=
  ((hl.data (.cells v.cells e) 0).2.toLe.trans (by
   rw [J.frz_zero (hl.1.fresh _ (Nat.le_refl _))];exact⟨by simp [J.obj],fun id hi=>by simp only [J.obj]; rw [if_neg (by omega)],fun _=>Nat.le_refl _,fun _ _ _=>rfl,fun _ _=>.inl rfl⟩))
 obtain⟨h1,h2⟩:=hl.obj (.cells v.cells e) (.cells (cellsA x)) rfl ⟨v.cells.toList,e,by
  simp only [J.obj,if_true]; rw [Array.toArray_toList]; exact heap_alloc_new w _,hv.cells.imp fun _ _ h=>h.mono hle,by
   simp only [J.obj,if_true]; exact hl.1.fresh _ (Nat.le_refl _)⟩
 unfold Oper.wp;rw [hr,Oper.upon_value];refine hk _ _ _ _ (j.obj w.heap.size) _ jl ⟨j.next,hl.1.next_none (Nat.le_refl _),rfl,rfl,rfl⟩ ?_ h1 (Ext.refl _) h2;have:=DRel.ptr (j:=j.obj w.heap.size) (w:=w.alloc (.cells v.cells e)) j.next 0 (by simp [J.obj])
 simpa [J.obj,VRel,ARel] using this

theorem StepE.allocO {e:TypeId}{ti:TI}{z:A}(hT:mkTI P e=some ti) (hz:ti.zero=some z) :
  StepE P (mk dst (.alloc e) ty pos aft g) ts ls h fun v ls' h'=>∃id,h id=none/\v=.a (.d (.ptr id 0))/\ls'=ls/\h'=h.set id (some (.cells (cellsA z))):=by
 obtain⟨inf,d,h1,_,_,_,_,h2⟩:=mkTI_spec hT;rw [hz] at h2;obtain⟨v,h3,h4⟩:=zeroF_rel h2;refine stepE_obj (e:=e) fun j w jl a _=>⟨v,h4 j w, ?_⟩;simp [execOp,Instr.alloc,zeroValue,typeInfo,h1,h3,newVar,newRow]

theorem StepE.boxO {e:TypeId}{x:Operand}{y:A}(hx:ev ts x=.a y) :
  StepE P (mk dst (.box e x) ty pos aft g) ts ls h fun v ls' h'=>∃id,h id=none/\v=.a (.d (.ptr id 0))/\ls'=ls/\h'=h.set id (some (.cells (cellsA y))) :=
 stepE_obj (e:=e) fun j w jl a ho=>by
  have h1:=ho x (by simp [Op.operands]);rw [hx] at h1;exact⟨a.eval x,h1,by simp [execOp,Instr.box,newVar,newRow]⟩

def evA (ts:Ts) (x:Operand):Option A:=match ev ts x with
 | .a y=>some y
 | _=>none
def evAs (ts:Ts):List Operand->Option (List A)
 | []=>some []
 | x::r=>match evA ts x,evAs ts r with
  | some y,some ys=>some (y::ys)
  | _,_=>none
theorem evAs_rel {j:J}{w:World}{jl:List Nat}{act:Act}:∀(l:List Operand) (xs:List A),evAs ts l=some xs->(∀x,x∈l->VRel j w jl (ev ts x) (act.eval x))->All2 (ARel j w) xs (l.map act.eval)
 | [],xs,h,_=>by simp [evAs] at h; subst h; exact .nil
 | x::r,xs,h,ho=>by
  simp only [evAs] at h
  split at h
  ·rename_i y ys h1 h2
   simp at h; subst h;refine .cons ?_ (evAs_rel r ys h2 fun z hz=>ho z (by simp [hz]));have:=ho x (by simp);unfold evA at h1
   split at h1
   ·rename_i z hz; simp at h1; subst h1; rw [hz] at this; exact this
   ·simp at h1
  ·simp at h

theorem Cert_call_core {f:Operand}{args:Array Operand}{ats:Array TypeId}{fid:FuncId}{caps:List D}{xs:List A}{Post:V->Heap->Prop}{L:List (List D)}{H:Heap}(hf:ev ts f=.a (.d (.func fid caps))) (ha:evAs ts args.toList=some xs)
  (hc:AC P fid (xs++caps.map .d) H Post) :
  StepE P (mk dst (.call { callee:=.value f,args:=args,argTypes:=ats }) ty pos aft g) ts L H fun v ls' h'=>Post v h'/\ls'=L:=by
 intro j w jl a hl ho K Q hk;have h1:=ho f (by simp [Op.operands,Call.operands]);rw [hf] at h1;have h2:=evAs_rel (j:=j) (w:=w) (jl:=jl) (act:=a) args.toList xs ha fun x hx=>ho x (by simp [Op.operands,Call.operands]; right; simpa using hx);have h1':DRel j w (.func fid caps) (a.eval f):=h1;generalize hfv:a.eval f=fv at h1';cases h1' with
 | func _ _ cvs hlen hr =>
  have hargs:All2 (ARel j w) (xs++caps.map .d) (args.toList.map a.eval++cvs):=by
   refine h2.append (All2.of_get (by simp [hlen]) fun i x y hx hy=>?_);rw [List.getElem?_map] at hx;cases e:caps[i]? with
   | none=>rw [e] at hx; simp at hx
   | some z =>
    rw [e] at hx; simp at hx; subst hx;obtain⟨hi,e1⟩:=List.getElem?_eq_some_iff.1 e;obtain⟨hi',e2⟩:=List.getElem?_eq_some_iff.1 hy;have:=hr i hi hi';rw [e1,e2] at this; exact this
  have hcall:=hc.runs j w _ hl.1 hargs;have hrun:(execOp a.eval (mk dst (.call { callee:=.value f,args:=args,argTypes:=ats }) ty pos aft g)).run P w=.ok (.enter fid (args.toList.map a.eval++cvs).toArray) w:=by
   have he:=hc.enter (args.toList.map a.eval++cvs).toArray w;have e3:Array.map a.eval args++cvs.toArray=(args.toList.map a.eval++cvs).toArray:=by apply Array.ext'; simp
   simp only [execOp,resolve,hfv,Deferred.ofValue,Sem.run_bind,Sem.run_pure,Result.andThen,invoke,List.append_eq,Array.empty_append];rw [e3]; exact he
  unfold Oper.wp;rw [hrun,Oper.upon_enter];refine hcall.mono ?_;rintro e w' ⟨r,cv,j',h',rfl,hp,hv,hh,hev⟩;have hjl:∀b,b∈jl->b<w.heap.size:=fun b hb=>Own.lt hl (.inl hb);have hloc:∀b,b∈jl->w'.heap[b]?=w.heap[b]?/\j'.F b=j.F b:=fun b hb=>hev.frame b (hjl b hb) (hl.2.apart b hb);refine hk r L h' cv j' w' jl ⟨hp,rfl⟩ (hv.mono (Le.refl _ _) (fun i b hb=>by simp at hb)) ⟨hh,⟨all2_imp_mem hl.2.each fun xs b hb h=>h.keep hev.toLe (hloc b hb),hl.2.nodup,fun b hb ho=>hl.2.apart b hb (hev.own b (hjl b hb) ho)⟩⟩ (Ext.refl _) ?_
  refine { hev with frame:=fun b hb hn=>hev.frame b hb (fun ho=>hn ?_),own:=fun b hb ho=>?_ }
  ·rcases ho with ho|ho
   ·simp at ho
   ·exact .inr ho
  ·rcases ho with ho|ho
   ·exact .inl ho
   ·rcases hev.own b hb (.inr ho) with h|h
    ·simp at h
    ·exact .inr h

theorem StepE.call {f:Operand}{args:Array Operand}{ats:Array TypeId}{fid:FuncId}{caps:List D}{xs:List A}{Post:V->Heap->Prop}(hf:ev ts f=.a (.d (.func fid caps))) (ha:evAs ts args.toList=some xs)
  (hc:AC P fid (xs++caps.map .d) h Post) :
  StepE P (mk dst (.call { callee:=.value f,args:=args,argTypes:=ats }) ty pos aft g) ts ls h fun v ls' h'=>Post v h'/\ls'=ls:=Cert_call_core hf ha hc

theorem Cert.callP {f:Operand}{args:Array Operand}{ats:Array TypeId}{fid:FuncId}{caps:List D}{xs:List A}{v:V}(hf:ev ts f=.a (.d (.func fid caps))) (ha:evAs ts args.toList=some xs)
  (hc:∀H,AC P fid (xs++caps.map .d) H fun r h'=>r=v/\h'=H) :
  Cert P (mk dst (.call { callee:=.value f,args:=args,argTypes:=ats }) ty pos aft g) ts ls h {} v ls h:=by
 intro L H _ _;exact(Cert_call_core hf ha (hc H)).mono fun _ _ _ ⟨⟨e1,e2⟩,e3⟩=>⟨e1,e3,e2⟩

theorem Cert.callH {f:Operand}{args:Array Operand}{ats:Array TypeId}{fid:FuncId}{caps:List D}{xs:List A}{v:V}{h1:Heap}(hf:ev ts f=.a (.d (.func fid caps))) (ha:evAs ts args.toList=some xs)
  (hc:AC P fid (xs++caps.map .d) h fun r h'=>r=v/\h'=h1) :
  Cert P (mk dst (.call { callee:=.value f,args:=args,argTypes:=ats }) ty pos aft g) ts ls h { rh:=true,wh:=true } v ls h1:=by
 intro L H _ hH;have e:=hH rfl;subst e;exact(Cert_call_core hf ha hc).mono fun _ _ _ ⟨⟨e1,e2⟩,e3⟩=>⟨e1,e3,e2⟩
theorem Cert.callR {f:Operand}{args:Array Operand}{ats:Array TypeId}{fid:FuncId}{caps:List D}{xs:List A}{v:V}(hf:ev ts f=.a (.d (.func fid caps))) (ha:evAs ts args.toList=some xs)
  (hc:AC P fid (xs++caps.map .d) h fun r h'=>r=v/\h'=h) :
  Cert P (mk dst (.call { callee:=.value f,args:=args,argTypes:=ats }) ty pos aft g) ts ls h { rh:=true } v ls h:=by
 intro L H _ hH;have e:=hH rfl;subst e;exact(Cert_call_core hf ha hc).mono fun _ _ _ ⟨⟨e1,e2⟩,e3⟩=>⟨e1,e3,e2⟩
end
end Go.Ab

/-
 append.
-/
namespace Go.Ab
open Go Go.RowKit
variable {lou:Lou}

theorem mk_slice {j:J}{w:World}{k:Nat}{tok:Option Nat}{rows:List (List D)}{b o cap:Nat}(hk:∀r∈rows,r.length=k) (hn:rows.length<=maxN) (hc:rows.length<=cap)
  (hcells:∀i x,rows.flatten[i]?=some x->o+i<j.F b/\∃v,w.cell? ⟨b,o+i,none⟩=some v/\DRel j w x v) (ht:TokOk j tok rows.length ⟨b,o,none⟩ cap) :
  DRel j w (.slice k tok false rows) (.slice (some ⟨b,o,none⟩) rows.length cap):=by
 refine DRel.slice k tok rows ⟨b,o,none⟩ cap (fun i=>(w.cell? ⟨b,o+i,none⟩).getD undef) hk hn hc ⟨.inr rfl,fun i hi=>?_⟩ (fun i hi=>?_) ht
 ·obtain⟨h1,v,h2,_⟩:=hcells i _ (List.getElem?_eq_getElem hi);exact⟨h1,by show w.cell? _=some ((w.cell? ⟨b,o+i,none⟩).getD undef); rw [h2]; rfl⟩
 ·obtain⟨h1,v,h2,h3⟩:=hcells i _ (List.getElem?_eq_getElem hi);rw [h2]; exact h3

theorem spl_lt {α:Type}:∀(l:List α) (n:Nat) (r:List α) (i:Nat),i<n->(spl l n r)[i]?=l[i]?
 | _,_,[],_,_=>rfl
 | l,n,v::r,i,h=>by
  rw [spl,spl_lt (l.set n v) (n+1) r i (by omega),List.getElem?_set_ne (by omega)]
theorem spl_at {α:Type}:∀(l:List α) (n:Nat) (r:List α) (i:Nat) (x:α),r[i]?=some x->n+r.length<=l.length->(spl l n r)[n+i]?=some x
 | _,_,[],_,_,h,_=>by simp at h
 | l,n,v::r,i,x,h,hl=>by
  simp only [List.length_cons] at hl;cases i with
  | zero =>
   simp at h; subst h;rw [spl,Nat.add_zero,spl_lt _ _ _ _ (by omega),List.getElem?_set];simp; omega
  | succ i =>
   rw [spl,show n+(i+1)=n+1+i by omega];exact spl_at (l.set n v) (n+1) r i x (by simpa using h) (by simp; omega)

section
variable {P:Program}{t u ty e:TypeId}{i:TypeInfo}{z:Value}{du:TypeDesc}

theorem append_big (ht:P.underlying t=some (.slice e)) (hu:P.underlying u=some du) (hdu:∀k,du≠.int k) (hi:P.info? e=some i) (hz:i.zero=some z){w:World}{base:Option Addr}{sLen sCap m:Nat}{x:Value}{olds news:List Value}
  (hlen:(Builtin.lenOf x).run P w=.ok m w) (hfo:(Builtin.firstCells i.size sLen (.slice base sLen sCap)).run P w.drew=.ok olds.toArray w.drew) (hfn:(Builtin.firstCells i.size m x).run P w.drew=.ok news.toArray w.drew)
  (hg:sCap<sLen+m) (h63:sLen+m<=9223372036854775807) (hfit:Builtin.nextslicecap (sLen+m) sCap*i.bytes<=281474976710656) :
  (Builtin.append_ #[t,u] ty #[.slice base sLen sCap,x]).run P w=.ok (.slice (some ⟨w.heap.size,0,none⟩) (sLen+m) (grownCap w (sLen+m) sCap e))
   (w.drew.alloc (.cells (olds++news++(Builtin.zeroCells z.cells (grownCap w (sLen+m) sCap e-(sLen+m))).toList).toArray e)):=by
 have hn:¬(sLen+m<=sCap):=by omega
 have h63':¬(9223372036854775807<((sLen:Int)+(m:Int))):=by omega
 have h48':¬(281474976710656<Builtin.nextslicecap (sLen+m) sCap*i.bytes):=by omega
 have hd:(match du with|.int _=>true|_=>false)=false:=by cases du<;>first|rfl|exact absurd rfl (hdu _)
 simp [Builtin.append_,run_underlying ht,run_underlying hu,sizeOf,typeInfo,zeroValue,hi,hz,hd,hlen,hn,h63',h48',Question.forced,hfo,hfn,newRow,grownCap]
 congr 2
 apply Array.ext'
 simp [List.append_assoc]

theorem append_fit (ht:P.underlying t=some (.slice e)) (hu:P.underlying u=some du) (hdu:∀k,du≠.int k) (hi:P.info? e=some i){w w':World}{a:Addr}{sLen sCap m:Nat}{x:Value}{news:List Value}
  (hlen:(Builtin.lenOf x).run P w=.ok m w) (hfn:(Builtin.firstCells i.size m x).run P w=.ok news.toArray w) (hg:sLen+m<=sCap) (hst:(storeCells (a.add (sLen*i.size)) news).run P w=.ok () w') :
  (Builtin.append_ #[t,u] ty #[.slice (some a) sLen sCap,x]).run P w=.ok (.slice (some a) (sLen+m) sCap) w':=by
 have hd:(match du with|.int _=>true|_=>false)=false:=by cases du<;>first|rfl|exact absurd rfl (hdu _)
 simp [Builtin.append_,run_underlying ht,run_underlying hu,sizeOf,typeInfo,hi,hd,hlen,hg,hfn,hst]

theorem append_nilnil (ht:P.underlying t=some (.slice e)) (hu:P.underlying u=some du) (hdu:∀k,du≠.int k) (hi:P.info? e=some i){w:World}{x:Value}
  (hlen:(Builtin.lenOf x).run P w=.ok 0 w) (hfn:(Builtin.firstCells i.size 0 x).run P w=.ok #[] w) :
  (Builtin.append_ #[t,u] ty #[.slice none 0 0,x]).run P w=.ok (.slice none 0 0) w:=by
 have hd:(match du with|.int _=>true|_=>false)=false:=by cases du<;>first|rfl|exact absurd rfl (hdu _)
 simp [Builtin.append_,run_underlying ht,run_underlying hu,sizeOf,typeInfo,hi,hd,hlen,hfn]
end

theorem first_rel {P:Program}{j:J}{w:World}{k:Nat}{tok:Option Nat}{nl:Bool}{rows:List (List D)}{cv:Value}{size:Nat}(h:DRel j w (.slice k tok nl rows) cv) (hk:∀r∈rows,r.length=size) :
  ∃cs:List Value,All2 (DRel j w) rows.flatten cs/\∀w',(∀b o,o<j.F b->w'.cell? ⟨b,o,none⟩=w.cell? ⟨b,o,none⟩)->(Builtin.firstCells size rows.length cv).run P w'=.ok cs.toArray w':=by
 cases h with
 | snil _ _ ht=>exact⟨[],.nil,fun w' _=>by simp [Builtin.firstCells]⟩
 | slice _ _ _ a cap f hk' hn hc hat hr ht =>
  by_cases hre:rows=[]
  ·subst hre;exact⟨[],.nil,fun w' _=>by simp [Builtin.firstCells,loadCells,loadCellsFrom]⟩
  have ha:a=⟨a.block,a.off,none⟩:=by have:=hat.1.resolve_left hre; cases a; simp at this; simp [this]
  have hfl:=(flatten_row hk).1;obtain⟨cs,h1,h2⟩:=loadCells_rel (P:=P) (j:=j) (w:=w) (b:=a.block) (o:=a.off) rows.flatten fun i x hx=>by
   have hi:=(List.getElem?_eq_some_iff.1 hx).1;refine⟨f i,(hat.2 i hi).2, ?_⟩;have:=hr i hi;rw [(List.getElem?_eq_some_iff.1 hx).2] at this; exact this
  refine⟨cs,h1,fun w' hw=>?_⟩;have hcells:∀n v,cs[n]?=some v->w.cell? ⟨a.block,a.off+n,none⟩=some v:=by
   intro n v hv;obtain⟨x,hx,_⟩:=h1.get' hv;have hi:=(List.getElem?_eq_some_iff.1 hx).1;have hcell:=(hat.2 n hi).2;have h3:(loadCells ⟨a.block,a.off,none⟩ rows.flatten.length).run P w=.ok ((List.range rows.flatten.length).map f).toArray w :=
    run_loadCells w _ _ f fun i hi=>by rw [add_plain]; exact(hat.2 i hi).2
   rw [h2] at h3;simp only [Result.ok.injEq,and_true] at h3;have h4:cs=(List.range rows.flatten.length).map f:=by
    have:=congrArg Array.toList h3; simpa using this
   rw [h4,List.getElem?_map,List.getElem?_range hi] at hv;simp at hv;rw [hcell,hv]
  rw [Builtin.firstCells,<- hfl,h1.length];rw [ha];exact run_loadCells_list w' _ cs fun n v hv=>by
   rw [add_plain];obtain⟨x,hx,_⟩:=h1.get' hv;have hi:=(List.getElem?_eq_some_iff.1 hx).1;rw [hw _ _ (hat.2 n hi).1];exact hcells n v hv

theorem slice_len {j:J}{w:World}{k:Nat}{tok:Option Nat}{nl:Bool}{rows:List (List D)}{cv:Value}(h:DRel j w (.slice k tok nl rows) cv) (P:Program) (w':World):(Builtin.lenOf cv).run P w'=.ok rows.length w':=by
 cases h<;>simp [Builtin.lenOf]

theorem flatten_cells {R:Nat->D->Prop}{rows rows':List (List D)}{n:Nat}(hn:rows.flatten.length=n) (h1:∀i x,rows.flatten[i]?=some x->R i x) (h2:∀i x,rows'.flatten[i]?=some x->R (n+i) x) :
  ∀i x,(rows++rows').flatten[i]?=some x->R i x:=by
 intro i x hx;rw [List.flatten_append,List.getElem?_append] at hx
 split at hx
 ·exact h1 i x hx
 ·rename_i h
  have:=h2 _ x hx
  rwa [show n+(i-rows.flatten.length)=i by omega] at this

section
variable {P:Program}{ts:Ts}{ls:List (List D)}{h:Heap}{dst:Option Tmp}{ty:TypeId}{pos:String}{aft:Array Edge}{g:Option (Nat×Bool)}

theorem slice_or_str {P:Program}{t:TypeId}{ti:TI}(hT:mkTI P t=some ti) (hk:(∃e,ti.k=.slice e)\/ti.k=.str):∃d,P.underlying t=some d/\∀k,d≠.int k:=by
 obtain⟨i,d,h1,h2,_,_,h3,_⟩:=mkTI_spec hT;refine⟨d,h2,fun k e=>?_⟩;subst e;simp only [kOf] at h3;rcases hk with ⟨e,hk⟩|hk<;>rw [hk] at h3<;>cases h3

def Src (P:Program) (j:J) (w:World) (size:Nat) (cv:Value) (rows':List (List D)):Prop :=
 (∀r∈rows',r.length=size)/\(∃news:List Value,All2 (DRel j w) rows'.flatten news/\∀w',(∀b o,o<j.F b->w'.cell? ⟨b,o,none⟩=w.cell? ⟨b,o,none⟩)->(Builtin.firstCells size rows'.length cv).run P w'=.ok news.toArray w')/\∀w',(Builtin.lenOf cv).run P w'=.ok rows'.length w'
theorem Src.slice {P:Program}{j:J}{w:World}{k:Nat}{tok:Option Nat}{nl:Bool}{rows:List (List D)}{cv:Value}{size:Nat}(h:DRel j w (.slice k tok nl rows) cv) (hk:∀r∈rows,r.length=size):Src P j w size cv rows :=
 ⟨hk,first_rel h hk,fun w'=>slice_len h P w'⟩
theorem Cert.appendG {t u e:TypeId}{ti ui ei:TI}{x y:Operand}{tk k m:Nat}{E:Option TypeId}{nl:Bool}{rows rows':List (List D)}{z:A}(hT:mkTI P t=some ti) (hk:ti.k=.slice e) (hE:mkTI P e=some ei) (hU:mkTI P u=some ui) (huk:(∃e,ui.k=.slice e)\/ui.k=.str)
  (hz:ei.zero=some z) (hzs:(cellsA z).length=ei.size) (hsz:ei.size≠0)
  (hx:ev ts x=.a (.d (.slice k (some tk) nl rows))) (hy:∀(j:J) (w:World) (jl:List Nat) (cv:Value),VRel j w jl (ev ts y) cv->Src P j w ei.size cv rows') (hkk:k=ei.size\/rows=[])
  (htk:h tk=some (.tok ei.size m E)) (hm:m=rows.length) (hfit:(rows.length+rows'.length)*ei.bytes<=maxN) (hlen:rows.length+rows'.length<=maxN) (hEE:∀T,E=some T->T=e:=by intro T h; cases h) :
  Cert P (mk dst (.call { callee:=.builtin .append,args:=#[x,y],argTypes:=#[t,u] }) ty pos aft g) ts ls h { rh:=true,wh:=true }
   (.a (.d (.slice ei.size (some tk) (nl&&rows'.isEmpty) (rows++rows')))) ls (h.set tk (some (.tok ei.size (rows.length+rows'.length) E))):=by
 refine Cert.of_run fun L H _ hH j w jl a hl ho=>?_;have hH':=hH rfl;subst hH' hm;have h1:DRel j w (.slice k (some tk) nl rows) (a.eval x):=by have:=ho x (by simp [Op.operands,Call.operands]); rw [hx] at this; exact this
 obtain⟨hkr',⟨news,hn1,hn2⟩,hlen0⟩:=hy j w jl (a.eval y) (ho y (by simp [Op.operands,Call.operands]));obtain⟨einf,ed,hei,_,hes,heb,_,hez⟩:=mkTI_spec hE;rw [hz] at hez;obtain⟨zv,hzv,hzr⟩:=zeroF_rel hez;have hzsize:zv.cells.size=ei.size:=by have:=(hzr j w).cells.length; rw [hzs] at this; simpa using this.symm
 obtain⟨du,hu,hdu⟩:=slice_or_str hU huk;have ht:=slice_of hT hk;obtain⟨ab,cap,e1,hnr,hcap,hnil,hnone,hkr,hb⟩:=rel_slice (jl:=jl) h1;have hkr2:∀r∈rows,r.length=ei.size:=by
  rcases hkk with e|e
  ·rw [<- e]; exact hkr
  ·rw [e]; simp
 have hkall:∀r∈rows++rows',r.length=ei.size:=fun r hr=>(List.mem_append.1 hr).elim (hkr2 r) (hkr' r);have hlenx:=hlen0 w;have hfl':=(flatten_row hkr').1;have hfl:=(flatten_row hkr2).1;have hnl:news.length=rows'.length*ei.size:=by rw [<- hn1.length,hfl']
 obtain⟨htn,blk,htok,hblk,_⟩:=hl.1.obj tk _ htk;have hexec:∀(v:Value) (w':World),(Builtin.append_ #[t,u] ty #[a.eval x,a.eval y]).run P w=.ok v w' ->
   (execOp a.eval (mk dst (.call { callee:=.builtin .append,args:=#[x,y],argTypes:=#[t,u] }) ty pos aft g)).run P w=.ok (.value v) w':=fun v w' hr=>by
  simp [execOp,resolve,invoke,builtin,hr]
 have htotal:(rows++rows').length=rows.length+rows'.length:=by simp
 by_cases hempty:rows'=[]
 ·-- nothing is appended
  subst hempty;have hnews:news=[]:=List.eq_nil_of_length_eq_zero (by simpa using hnl);subst hnews;have hrun:(Builtin.append_ #[t,u] ty #[a.eval x,a.eval y]).run P w=.ok (a.eval x) w:=by
   rw [e1];cases ab with
   | none =>
    obtain⟨hc0,hr0⟩:=hnone rfl;subst hc0 hr0;exact append_nilnil ht hu hdu hei (by simpa using hlenx) (by rw [hes]; simpa using hn2 w (fun _ _ _=>rfl))
   | some ad =>
    have:=append_fit (P:=P) (ty:=ty) (sCap:=cap) (sLen:=rows.length) (m:=0) (a:=ad) (news:=[]) (w':=w) ht hu hdu hei (by simpa using hlenx) (by rw [hes]; simpa using hn2 w (fun _ _ _=>rfl)) (by omega) (by simp [storeCells])
    simpa using this
  refine⟨_,w,a.eval x,j,jl,hexec _ _ hrun,.inl rfl, ?_, ?_,Ext.refl _, ?_⟩
  ·have hk0:rows≠[]->k=ei.size:=fun hne=>hkk.resolve_right hne;simp only [List.append_nil,List.isEmpty_nil,Bool.and_true];show DRel j w _ _;by_cases hne:rows=[]
   ·subst hne;have key:∀xv,DRel j w (.slice k (some tk) nl []) xv->DRel j w (.slice ei.size (some tk) nl []) xv:=by
     intro xv hh;cases hh with
     | snil _ _ ht=>exact .snil _ _ ht
     | slice _ _ _ a cap f hk hn hc hat hr ht=>exact .slice _ _ [] a cap f (by simp) hn hc hat hr ht
    exact key _ h1
   ·rw [<- hk0 hne]; exact h1
  ·simp only [List.length_nil,Nat.add_zero,cond_true];rw [Heap.set_self H tk _ htk]; exact hl
  ·simp only [List.length_nil,Nat.add_zero,cond_true];rw [Heap.set_self H tk _ htk]; exact Evolve.refl _ _ _
 ·have hpos:0<rows'.length:=List.length_pos_iff.2 hempty;have hfalse:(nl&&rows'.isEmpty)=false:=by cases rows' with|nil=>exact absurd rfl hempty|cons _ _=>simp
  rw [hfalse];by_cases hroom:rows.length+rows'.length<=cap
  ·-- in place
   cases ab with
   | none=>obtain⟨hc0,_⟩:=hnone rfl; omega
   | some ad =>
    obtain⟨htk1,f,hat,hrr⟩:=hb ad rfl;obtain⟨_,htk2⟩:=htk1 tk rfl;obtain⟨_,htk3⟩:=htk2 _ htok;rcases htk3 rfl with ⟨_,hc⟩|⟨b,hbb,had⟩
    ·omega
    ·subst had;dsimp only at hbb;obtain⟨cs,ce,hg,hcsz,hF,hmc,hce⟩:=hblk b cap hbb;have hg':w.heap[b]?=some (.cells cs.toList.toArray ce (0,0)):=by simpa using hg
     obtain⟨w',hst,hupd⟩:=storeCells_upd (lou:=lou) (P:=P) (off:=rows.length*ei.size) news 0 cs.toList w hg' (by
      rw [hnl]; simp only [Array.length_toList,hcsz]; rw [Nat.add_zero,<- Nat.add_mul]; exact Nat.mul_le_mul_right _ hroom) (all2_one hn1)
     rw [Nat.add_zero] at hupd;have hrun:(Builtin.append_ #[t,u] ty #[a.eval x,a.eval y]).run P w=.ok (.slice (some ⟨b,0,none⟩) (rows.length+rows'.length) cap) w':=by
      rw [e1];exact append_fit ht hu hdu hei hlenx (by rw [hes]; exact hn2 w fun _ _ _=>rfl) hroom (by rw [add_plain,hes,Nat.zero_add]; exact hst)
     have hblkb:blkOf j tk (.tok ei.size rows.length E)=some b:=by simp [blkOf,htok,hbb]
     have hcell:∀o,w'.cell? ⟨b,o,none⟩=(spl cs.toList (rows.length*ei.size) news)[o]?:=fun o=>by rw [cell_of_row w' b o _ ce (0,0) hupd.here]; simp
     have hcell0:∀o,w.cell? ⟨b,o,none⟩=cs.toList[o]?:=fun o=>by rw [cell_of_row w b o _ ce (0,0) hg']; simp
     obtain⟨hgrow,hev⟩:=hl.grow (w':=w') (m':=rows.length+rows'.length) htk (by omega) (b:=b) (cap:=cap) hupd.here (by simp [spl_length,hcsz]) hroom (fun x hx _=>hupd.other x hx)
      (by rw [hupd.size]; exact Nat.le_refl _) (by rw [hupd.size]; omega) (.inr ⟨hblkb,fun o ho=>by rw [hcell,hcell0,spl_lt _ _ _ _ (by rw [hF] at ho; exact ho)]⟩) hupd.os hupd.tape hupd.output hce
     refine⟨_,w',_,_,jl,hexec _ _ hrun,.inl rfl, ?_,hgrow,Ext.refl _,hev⟩;have hle:=hev.toLe;have:=mk_slice (j:=j.retok tk ⟨some (b,cap),rows.length+rows'.length⟩ b ((rows.length+rows'.length)*ei.size)) (w:=w') (k:=ei.size) (tok:=some tk) (rows:=rows++rows') (b:=b) (o:=0) (cap:=cap) hkall
      (by rw [htotal]; exact hlen) (by rw [htotal]; exact hroom) (fun i x hx=>?_) (fun t' ht'=>?_)
     ·rw [htotal] at this; exact this
     ·have hil:i<(rows++rows').flatten.length:=(List.getElem?_eq_some_iff.1 hx).1;rw [(flatten_row hkall).1,htotal] at hil;refine⟨by simp only [J.retok,if_true]; omega, ?_⟩;rw [Nat.zero_add,hcell]
      revert i x hx
      have:=flatten_cells (R:=fun i x=>∃v,(spl cs.toList (rows.length*ei.size) news)[i]?=some v/\DRel (j.retok tk ⟨some (b,cap),rows.length+rows'.length⟩ b ((rows.length+rows'.length)*ei.size)) w' x v) hfl (rows':=rows')
       (fun i x hx=>by
        have hi:=(List.getElem?_eq_some_iff.1 hx).1;rw [spl_lt _ _ _ _ (by omega)];have h3:=(hat.2 i hi).2;rw [Nat.zero_add,hcell0] at h3;refine⟨f i,h3, ?_⟩;have h4:=hrr i hi;rw [(List.getElem?_eq_some_iff.1 hx).2] at h4;exact h4.mono hle)
       (fun i x hx=>by
        obtain⟨v,hv,hr⟩:=hn1.get hx;exact⟨v,spl_at _ _ _ _ _ hv (by rw [hnl]; simp only [Array.length_toList,hcsz]; rw [<- Nat.add_mul]; exact Nat.mul_le_mul_right _ hroom),hr.mono hle⟩)
      exact fun i x hx _=>this i x hx
     ·simp only [Option.some.injEq] at ht';subst ht';refine⟨Nat.lt_of_lt_of_le htn hle.next,fun kk hkk=>?_⟩;simp only [J.retok,if_true,Option.some.injEq] at hkk;subst hkk;exact⟨by rw [htotal]; exact Nat.le_refl _,fun _=>.inr ⟨b,rfl,rfl⟩⟩
  ·-- a new array
   obtain⟨olds,ho1,ho2⟩:=first_rel (P:=P) h1 hkr2;have hol:olds.length=rows.length*ei.size:=by rw [<- ho1.length,hfl]
   have hdrew:∀b o,o<j.F b->w.drew.cell? ⟨b,o,none⟩=w.cell? ⟨b,o,none⟩:=fun _ _ _=>rfl;have hmaxN:maxN=140737488355328:=rfl;have hrun:=append_big (P:=P) (ty:=ty) (w:=w) (base:=ab) (sLen:=rows.length) (sCap:=cap) (m:=rows'.length) (x:=a.eval y) (olds:=olds) (news:=news) ht hu hdu hei hzv hlenx
    (by rw [hes,<- e1]; exact ho2 w.drew hdrew) (by rw [hes]; exact hn2 w.drew hdrew) (by omega) (by omega) (growslice_fits (by omega) (by rw [heb]; exact hfit))
   rw [<- e1] at hrun;generalize hcap':grownCap w (rows.length+rows'.length) cap e=cap' at hrun;have hge:rows.length+rows'.length<=cap':=by rw [<- hcap']; exact grownCap_ge _ _ _ _
   generalize hcells':olds++news++(Builtin.zeroCells zv.cells (cap'-(rows.length+rows'.length))).toList=cells' at hrun;have hcl:cells'.length=cap'*ei.size:=by
    rw [<- hcells'];simp only [List.length_append,hol,hnl,Array.length_toList,size_zeroCells,hzsize,<- Nat.add_mul]
    congr 1; omega
   have hnew:=heap_alloc_new w.drew (.cells cells'.toArray e);have hcell:∀o,(w.drew.alloc (.cells cells'.toArray e)).cell? ⟨w.heap.size,o,none⟩=cells'[o]?:=fun o=>by
    rw [cell_of_row _ w.heap.size o cells'.toArray e (0,0) hnew]; simp
   obtain⟨hgrow,hev⟩:=hl.drew.grow (w':=w.drew.alloc (.cells cells'.toArray e)) (m':=rows.length+rows'.length) htk (by omega) (b:=w.heap.size) (cap:=cap') hnew (by simpa using hcl) hge
    (fun x hx hlt=>heap_alloc_ne hlt) (by simp) (by simp) (.inl (Nat.le_refl _)) rfl rfl Outs.rfl (fun T h=>(hEE T h).symm)
   refine⟨_,_,_,_,jl,hexec _ _ hrun,.inl rfl, ?_,hgrow,Ext.refl _,(Evolve.drew j w _).trans hev⟩;have hle:=((Evolve.drew j w (Own j H jl)).trans hev).toLe;have:=mk_slice (j:=j.retok tk ⟨some (w.heap.size,cap'),rows.length+rows'.length⟩ w.heap.size ((rows.length+rows'.length)*ei.size)) (w:=w.drew.alloc (.cells cells'.toArray e)) (k:=ei.size) (tok:=some tk) (rows:=rows++rows') (b:=w.heap.size)
    (o:=0) (cap:=cap') hkall (by rw [htotal]; exact hlen) (by rw [htotal]; exact hge) (fun i x hx=>?_) (fun t' ht'=>?_)
   ·rw [htotal] at this; exact this
   ·have hil:i<(rows++rows').flatten.length:=(List.getElem?_eq_some_iff.1 hx).1;rw [(flatten_row hkall).1,htotal] at hil;refine⟨by simp only [J.retok,if_true]; omega, ?_⟩;rw [Nat.zero_add,hcell]
    revert i x hx
    have:=flatten_cells (R:=fun i x=>∃v,cells'[i]?=some v/\DRel (j.retok tk ⟨some (w.heap.size,cap'),rows.length+rows'.length⟩ w.heap.size ((rows.length+rows'.length)*ei.size)) (w.drew.alloc (.cells cells'.toArray e)) x v) hfl (rows':=rows')
     (fun i x hx=>by
      obtain⟨v,hv,hr⟩:=ho1.get hx;refine⟨v, ?_,hr.mono hle⟩;have hi:=(List.getElem?_eq_some_iff.1 hv).1;rw [<- hcells',List.append_assoc,List.getElem?_append_left hi]; exact hv)
     (fun i x hx=>by
      obtain⟨v,hv,hr⟩:=hn1.get hx;refine⟨v, ?_,hr.mono hle⟩;have hi:=(List.getElem?_eq_some_iff.1 hv).1;rw [<- hcells',List.append_assoc,List.getElem?_append_right (by omega),show rows.length*ei.size+i-olds.length=i by omega,List.getElem?_append_left hi]; exact hv)
    exact fun i x hx _=>this i x hx
   ·simp only [Option.some.injEq] at ht';subst ht';refine⟨Nat.lt_of_lt_of_le htn hle.next,fun kk hkk=>?_⟩;simp only [J.retok,if_true,Option.some.injEq] at hkk;subst hkk;exact⟨by rw [htotal]; exact Nat.le_refl _,fun _=>.inr ⟨w.heap.size,rfl,rfl⟩⟩
theorem Cert.append {t u e:TypeId}{ti ui ei:TI}{x y:Operand}{tk k k' m:Nat}{tok':Option Nat}{nl nl':Bool}{rows rows':List (List D)}{z:A}(hT:mkTI P t=some ti) (hk:ti.k=.slice e) (hE:mkTI P e=some ei) (hU:mkTI P u=some ui) (huk:(∃e,ui.k=.slice e)\/ui.k=.str)
  (hz:ei.zero=some z) (hzs:(cellsA z).length=ei.size) (hsz:ei.size≠0)
  (hx:ev ts x=.a (.d (.slice k (some tk) nl rows))) (hy:ev ts y=.a (.d (.slice k' tok' nl' rows'))) (hkk:k=ei.size\/rows=[]) (hkk':k'=ei.size\/rows'=[])
  (htk:h tk=some (.tok ei.size m)) (hm:m=rows.length) (hfit:(rows.length+rows'.length)*ei.bytes<=maxN) (hlen:rows.length+rows'.length<=maxN) :
  Cert P (mk dst (.call { callee:=.builtin .append,args:=#[x,y],argTypes:=#[t,u] }) ty pos aft g) ts ls h { rh:=true,wh:=true }
   (.a (.d (.slice ei.size (some tk) (nl&&rows'.isEmpty) (rows++rows')))) ls (h.set tk (some (.tok ei.size (rows.length+rows'.length)))) :=
 Cert.appendG hT hk hE hU huk hz hzs hsz hx (fun j w jl cv hv=>by
  have hv':DRel j w (.slice k' tok' nl' rows') cv:=by rw [hy] at hv; exact hv
  refine Src.slice hv' fun r hr=>?_;obtain⟨_,_,_,_,_,_,_,hh,_⟩:=rel_slice (jl:=jl) hv';rcases hkk' with e|e
  ·rw [<- e]; exact hh r hr
  ·rw [e] at hr; cases hr) hkk htk hm hfit hlen

end
end Go.Ab

/-
 Struct and slice literals,maps,parts of slices,comparisons of structs,tokens.
-/
namespace Go.Ab
open Go Go.RowKit
variable {lou:Lou}

theorem foldl_spl (off:Nat):∀(l:List Value) (k:Nat) (cs:Array Value),((l.zipIdx k).foldl (fun cs (p:Value×Nat)=>cs.setIfInBounds (off+p.2) p.1) cs).toList=spl cs.toList (off+k) l
 | [],_,_=>rfl
 | v::r,k,cs=>by
  simp only [List.zipIdx_cons,List.foldl_cons];rw [foldl_spl off r (k+1)];simp [spl,Nat.add_assoc]

def evParts (ts:Ts):List (Nat×Operand)->Option (List (Nat×A))
 | []=>some []
 | (i,x)::r=>match evA ts x,evParts ts r with
  | some y,some ys=>some ((i,y)::ys)
  | _,_=>none

theorem evParts_rel {j:J}{w:World}{jl:List Nat}{ts:Ts}{act:Act}:∀(l:List (Nat×Operand)) (xs:List (Nat×A)),evParts ts l=some xs->(∀x,x∈l.map (·.2)->VRel j w jl (ev ts x) (act.eval x)) ->
  All2 (fun p q=>p.1=q.1/\ARel j w p.2 q.2) xs (l.map fun p=>(p.1,act.eval p.2))
 | [],xs,h,_=>by simp [evParts] at h; subst h; exact .nil
 | (i,x)::r,xs,h,ho=>by
  simp only [evParts] at h
  split at h
  ·rename_i y ys h1 h2
   simp at h; subst h;refine .cons ⟨rfl, ?_⟩ (evParts_rel r ys h2 fun z hz=>ho z (by simp at hz ⊢; exact .inr hz));have:=ho x (by simp);unfold evA at h1
   split at h1
   ·rename_i z hz; simp at h1; subst h1; rw [hz] at this; exact this
   ·simp at h1
  ·simp at h

def buildA (T:List TI) (fs:List (Nat×TypeId)):List D->List (Nat×A)->Option (List D)
 | zs,[]=>some zs
 | zs,(i,x)::r=>match fs[i]? with
  | some (o,ft)=>match T[ft]? with
   | some fi=>match Nat.beq (cellsA x).length fi.size&&Nat.ble (o+fi.size) zs.length with
    | true=>buildA T fs (spl zs o (cellsA x)) r
    | false=>none
   | none=>none
  | none=>none

section
variable {P:Program}{T:List TI}{ts:Ts}{ls:List (List D)}{h:Heap}{dst:Option Tmp}{ty:TypeId}{pos:String}{aft:Array Edge}{g:Option (Nat×Bool)}

theorem places_run {P:Program}{T:List TI}(hTab:TabOk P T):∀(fs:List Field) (w:World),(∀f∈fs,∃fi,T[f.type]?=some fi) ->
  ∃ps:List (Nat×Nat),(fs.mapM fun(f:Field)=>Prod.mk f.offset <$> sizeOf f.type).run P w=.ok ps w/\∀(i:Nat) (f:Field),fs[i]?=some f->∀fi:TI,T[f.type]?=some fi->ps[i]?=some (f.offset,fi.size)
 | [],w,_=>⟨[],by simp,by simp⟩
 | f::fs,w,hall=>by
  obtain⟨fi,hfi⟩:=hall f (by simp);obtain⟨ps,h1,h2⟩:=places_run hTab fs w fun f hf=>hall f (by simp [hf]);refine⟨(f.offset,fi.size)::ps, ?_,fun i f' hi fi' hfi'=>?_⟩
  ·rw [List.mapM_cons,Sem.run_bind,Sem.run_map,sizeOf_run (hTab _ _ hfi)];simp only [Result.andThen,Sem.run_bind,h1,Sem.run_pure]
  ·cases i with
   | zero=>simp at hi; subst hi; rw [hfi] at hfi'; simp at hfi'; subst hfi'; rfl
   | succ i=>simp at hi ⊢; exact h2 i f' hi fi' hfi'

theorem buildA_spec {j:J}{w:World}{T:List TI}{fs:List (Nat×TypeId)}{place:Nat->Option (Nat×Nat)}(hplace:∀i o ft fi,fs[i]?=some (o,ft)->T[ft]?=some fi->place i=some (o,fi.size)) :
  ∀(parts:List (Nat×A)) (vals:List (Nat×Value)) (zs ys:List D) (cs:Array Value),buildA T fs zs parts=some ys->All2 (fun p q=>p.1=q.1/\ARel j w p.2 q.2) parts vals->All2 (DRel j w) zs cs.toList ->
  ∃cs',Instr.fill place cs vals=some cs'/\All2 (DRel j w) ys cs'.toList
 | _,_,zs,ys,cs,hb,.nil,hz=>by simp [buildA] at hb; subst hb; exact⟨cs,rfl,hz⟩
 | (i,x)::ps,(i',v)::vs,zs,ys,cs,hb,.cons ⟨e,hr⟩ ht,hz=>by
  dsimp only at e hr;subst e;simp only [buildA] at hb
  split at hb
  ·rename_i o ft hf
   split at hb
   ·rename_i fi hfi
    split at hb
    ·rename_i hc
     simp only [Bool.and_eq_true] at hc;have hl:=Nat.eq_of_beq_eq_true hc.1;have hle:=Nat.le_of_ble_eq_true hc.2;have hp:=hplace i o ft fi hf hfi;have hcl:=hr.cells;have hs:v.cells.size=fi.size:=by rw [<- hl,hcl.length]; simp
     have hsz:cs.size=zs.length:=by rw [hz.length]; simp
     have hz':All2 (DRel j w) (spl zs o (cellsA x)) (v.cells.zipIdx.foldl (fun cs (p:Value×Nat)=>cs.setIfInBounds (o+p.2) p.1) cs).toList:=by
      rw [<- Array.foldl_toList];have:=foldl_spl o v.cells.toList 0 cs;simp only [Array.toList_zipIdx];rw [this,Nat.add_zero];exact hz.spl o hcl
     obtain⟨cs',h1,h2⟩:=buildA_spec hplace ps vs _ ys _ hb ht hz';refine⟨cs', ?_,h2⟩;rw [Instr.fill,hp];dsimp only;rw [if_neg (by simp [hs,hsz]; omega)];exact h1
    ·simp at hb
   ·simp at hb
  ·simp at hb

theorem Cert.build (hTab:TabOk P T){t:TypeId}{ti:TI}{fs:List (Nat×TypeId)}{zs ys:List D}{parts:Array (Nat×Operand)}{ps:List (Nat×A)}(hT:T[t]?=some ti) (hk:ti.k=.struct fs) (hz:ti.zero=some (.agg zs))
  (hall:fs.all (fun f=>(T[f.2]?).isSome)=true) (hp:evParts ts parts.toList=some ps) (hb:buildA T fs zs ps=some ys):Cert P (mk dst (.build t parts) ty pos aft g) ts ls h {} (.a (.agg ys)) ls h :=
 Cert.of_ops fun j w jl a ho=>by
  have hr:=evParts_rel (j:=j) (w:=w) (jl:=jl) (act:=a) parts.toList ps hp fun x hx=>ho x (by simp [Op.operands] at hx ⊢; exact hx);have hT':=hTab t ti hT;obtain⟨inf,d,h1,_,_,_,_,h2⟩:=mkTI_spec hT';rw [hz] at h2;obtain⟨zv,h3,h4⟩:=zeroF_rel h2;obtain⟨gs,hu,he⟩:=struct_of hT' hk;obtain⟨pl,hpl1,hpl2⟩:=places_run (P:=P) hTab gs.toList w fun f hf=>by
   have:=List.all_eq_true.1 hall (f.offset,f.type) (by rw [<- he]; exact List.mem_map.2 ⟨f,hf,rfl⟩);exact Option.isSome_iff_exists.1 this
  obtain⟨cs',h5,h6⟩:=buildA_spec (j:=j) (w:=w) (T:=T) (fs:=fs) (place:=(pl.toArray[·]?)) (fun i o ft fi hi hfi=>by
   rw [<- he,List.getElem?_map] at hi;cases e:gs.toList[i]? with
   | none=>rw [e] at hi; simp at hi
   | some f=>rw [e] at hi; simp at hi; obtain⟨rfl,rfl⟩:=hi; simpa using hpl2 i f e fi hfi) ps _ zs ys zv.cells hb hr (h4 j w).cells
  refine⟨.agg cs', ?_,⟨cs'.toList,by simp,h6⟩⟩;have hrun:(Instr.build t (parts.map fun(i,x)=>(i,a.eval x))).run P w=.ok (.agg cs') w:=by
   simp only [Instr.build,Sem.run_bind,zeroValue,typeInfo,run_program,h1,h3,Result.andThen,Sem.run_pure,run_under hu];rw [Array.mapM_eq_mapM_toList,Sem.run_map];rw [show (List.mapM _ gs.toList:Sem (List (Nat×Nat)))=List.mapM (fun f=>Prod.mk f.offset <$> sizeOf f.type) gs.toList from by congr 1];rw [hpl1];simp only [Result.andThen];have e:(Array.map (fun(x:Nat×Operand)=>(x.1,a.eval x.2)) parts).toList=parts.toList.map fun p=>(p.1,a.eval p.2):=by simp
   rw [e,h5];simp
  simp only [execOp,Sem.run_bind,hrun,Result.andThen,Sem.run_pure]

def fillRows (n:Nat):List (List D)->List (Nat×A)->Option (List (List D))
 | rows,[]=>some rows
 | rows,(i,x)::r=>match Nat.beq (cellsA x).length n&&Nat.blt i rows.length with
  | true=>fillRows n (rows.set i (cellsA x)) r
  | false=>none

theorem flatten_set {n:Nat}:∀{rows:List (List D)}(_:∀r∈rows,r.length=n){i:Nat}(_:i<rows.length){r:List D}(_:r.length=n),(rows.set i r).flatten=spl rows.flatten (i*n) r
 | [],_,i,hi,_,_=>by simp at hi
 | r0::rs,hk,i,hi,r,hr=>by
  have h0:r0.length=n:=hk r0 (by simp);cases i with
  | zero =>
   simp only [List.set_cons_zero,List.flatten_cons,Nat.zero_mul]
   apply List.ext_getElem?
   intro k;by_cases hkn:k<n
   ·rw [List.getElem?_append_left (by omega)];have:=spl_at (r0++rs.flatten) 0 r k (r[k]'(by omega)) (List.getElem?_eq_getElem (by omega)) (by simp; omega);rw [Nat.zero_add] at this;rw [this,List.getElem?_eq_getElem (by omega)]
   ·rw [List.getElem?_append_right (by omega)];have:∀(l:List D) (m:Nat) (s:List D) (k:Nat),m+s.length<=k->(spl l m s)[k]?=l[k]?:=by
     intro l m s;induction s generalizing l m with
     | nil=>intros; rfl
     | cons v s ih=>intro k hk; simp at hk; rw [spl,ih _ _ k (by omega),List.getElem?_set_ne (by omega)]
    rw [this _ _ _ _ (by omega),List.getElem?_append_right (by omega),h0,hr]
  | succ i =>
   simp only [List.set_cons_succ,List.flatten_cons];rw [flatten_set (fun x hx=>hk x (by simp [hx])) (by simpa using hi) hr];have:∀(p l:List D) (m:Nat) (s:List D),spl (p++l) (p.length+m) s=p++spl l m s:=by
    intro p l m s;induction s generalizing l m with
    | nil=>rfl
    | cons v s ih=>rw [spl,spl,show (p++l).set (p.length+m) v=p++l.set m v by rw [List.set_append_right _ _ (by omega)]; simp,Nat.add_assoc,ih]
   rw [<- this,h0,show (i+1)*n=n+i*n by rw [Nat.add_mul]; omega]

theorem fillRows_spec {j:J}{w:World}{n:Nat}:∀(parts:List (Nat×A)) (vals:List (Nat×Value)) (rows rows':List (List D)) (cs:Array Value),fillRows n rows parts=some rows'->(∀r∈rows,r.length=n) ->
  All2 (fun p q=>p.1=q.1/\ARel j w p.2 q.2) parts vals->All2 (DRel j w) rows.flatten cs.toList ->
  ∃cs',Instr.fill (fun i=>some (i*n,n)) cs vals=some cs'/\All2 (DRel j w) rows'.flatten cs'.toList/\rows'.length=rows.length/\∀r∈rows',r.length=n
 | _,_,rows,rows',cs,hb,hk,.nil,hz=>by simp [fillRows] at hb; subst hb; exact⟨cs,rfl,hz,rfl,hk⟩
 | (i,x)::ps,(i',v)::vs,rows,rows',cs,hb,hk,.cons ⟨e,hr⟩ ht,hz=>by
  dsimp only at e hr;subst e;simp only [fillRows] at hb
  split at hb
  ·rename_i hc
   simp only [Bool.and_eq_true] at hc;have hl:=Nat.eq_of_beq_eq_true hc.1;have hlt:i<rows.length:=by simpa [Nat.blt_eq] using hc.2
   have hcl:=hr.cells;have hs:v.cells.size=n:=by rw [<- hl,hcl.length]; simp
   have hsz:cs.size=rows.length*n:=by rw [<- (flatten_row hk).1,hz.length]; simp
   have hle:i*n+n<=rows.length*n:=by rw [<- Nat.succ_mul]; exact Nat.mul_le_mul_right n hlt
   have hz':All2 (DRel j w) (rows.set i (cellsA x)).flatten (v.cells.zipIdx.foldl (fun cs (p:Value×Nat)=>cs.setIfInBounds (i*n+p.2) p.1) cs).toList:=by
    rw [flatten_set hk hlt hl,<- Array.foldl_toList];have:=foldl_spl (i*n) v.cells.toList 0 cs;simp only [Array.toList_zipIdx];rw [this,Nat.add_zero];exact hz.spl _ hcl
   have hk':∀r∈rows.set i (cellsA x),r.length=n:=fun r hr=>by
    rcases List.mem_or_eq_of_mem_set hr with h|h
    ·exact hk r h
    ·rw [h]; exact hl
   obtain⟨cs',h1,h2,h3,h4⟩:=fillRows_spec ps vs _ rows' _ hb hk' ht hz';refine⟨cs', ?_,h2,by rw [h3]; simp,h4⟩;rw [Instr.fill];dsimp only;rw [if_neg (by simp [hs,hsz]; omega)];exact h1
  ·simp at hb

theorem map_range_mod {α:Type} [Inhabited α] (z:Array α) (len:Nat) (hz:z.size≠0):((Array.range (len*z.size)).map (fun i=>z[i % z.size]!)).toList=(List.replicate len z.toList).flatten:=by
 induction len with
 | zero=>simp
 | succ len ih =>
  have h1:((Array.range ((len+1)*z.size)).map (fun i=>z[i % z.size]!)).toList=((Array.range (len*z.size)).map (fun i=>z[i % z.size]!)).toList++z.toList:=by
   simp only [Array.toList_map,Array.toList_range];rw [Nat.add_mul,Nat.one_mul,List.range_add,List.map_append,List.map_map]
   congr 1
   apply List.ext_getElem?
   intro k;by_cases hk:k<z.size
   ·simp only [List.getElem?_map,List.getElem?_range hk,Option.map_some,Function.comp];have e:(len*z.size+k) % z.size=k:=by rw [Nat.mul_comm,Nat.mul_add_mod,Nat.mod_eq_of_lt hk]
    rw [e]; simp [hk]
   ·rw [List.getElem?_eq_none (by simp; omega),List.getElem?_eq_none (by simp; omega)]
  rw [h1,ih];rw [List.replicate_succ',List.flatten_append]; simp

end
end Go.Ab

/-
 Slice literals,maps,parts of slices,comparisons of structs,tokens.
-/
namespace Go.Ab
open Go Go.RowKit
variable {lou:Lou}
variable {amb:Amb}
section
variable {P:Program}{T:List TI}{ts:Ts}{ls:List (List D)}{h:Heap}{dst:Option Tmp}{ty:TypeId}{pos:String}{aft:Array Edge}{g:Option (Nat×Bool)}

theorem Cert.buildSliceF {t e:TypeId}{ti ei:TI}{z:A}{len:Nat}{parts:Array (Nat×Operand)}{ps:List (Nat×A)}{rows:List (List D)}(hT:mkTI P t=some ti) (hk:ti.k=.slice e) (hE:mkTI P e=some ei)
  (hz:ei.zero=some z) (hzs:Nat.beq (cellsA z).length ei.size=true) (hsz:Nat.beq ei.size 0=false) (hlen:Nat.ble (len*ei.size) 16777216=true) (hp:evParts ts parts.toList=some ps) (hr:fillRows ei.size (List.replicate len (cellsA z)) ps=some rows) :
  Cert P (mk dst (.buildSlice t len parts) ty pos aft g) ts ls h {} (.full ei.size rows) ls h:=by
 refine Cert.of_run fun L H _ _ j w jl a hl ho=>?_;have hpr:=evParts_rel (j:=j) (w:=w) (jl:=jl) (act:=a) parts.toList ps hp fun x hx=>ho x (by simp [Op.operands] at hx ⊢; exact hx);obtain⟨einf,ed,hei,_,hes,heb,_,hez⟩:=mkTI_spec hE;rw [hz] at hez;obtain⟨zv,hzv,hzr⟩:=zeroF_rel hez;have hzs':(cellsA z).length=ei.size:=Nat.eq_of_beq_eq_true hzs;have hsz':ei.size≠0:=fun e=>by rw [e] at hsz; simp at hsz
 have hlen':len*ei.size<=16777216:=Nat.le_of_ble_eq_true hlen;have hzsize:zv.cells.size=ei.size:=by have:=(hzr j w).cells.length; rw [hzs'] at this; simpa using this.symm
 have hzero:∀pre:Array Value,pre=(Array.range (len*ei.size)).map (fun i=>zv.cells[i % zv.cells.size]!)->All2 (DRel j w) (List.replicate len (cellsA z)).flatten pre.toList:=by
  intro pre hpre;rw [hpre,<- hzsize,map_range_mod _ _ (by omega)];have:=(hzr j w).cells;clear hr hpre hlen hlen' ho;induction len with
  | zero=>exact .nil
  | succ n ih=>simp only [List.replicate_succ,List.flatten_cons]; exact this.append ih
 obtain⟨cs',h1,h2,h3,h4⟩:=fillRows_spec (j:=j) (w:=w) ps _ _ rows _ hr (fun r hr=>by rw [List.eq_of_mem_replicate hr]; exact hzs') hpr (hzero _ rfl);simp only [List.length_replicate] at h3;have hrun:(Instr.buildSlice t len (parts.map fun(i,x)=>(i,a.eval x))).run P w=.ok (.slice (some ⟨w.heap.size,0,none⟩) len len) (w.alloc (.cells cs' e)):=by
  have hn1:¬(16777216<len*ei.size):=by omega
  have e1:(Array.map (fun(x:Nat×Operand)=>(x.1,a.eval x.2)) parts).toList=parts.toList.map fun p=>(p.1,a.eval p.2):=by simp
  rw [<- e1] at h1;by_cases h0:len*ei.size=0
  ·have hl0:len=0:=by
    rcases Nat.mul_eq_zero.1 h0 with e|e
    ·exact e
    ·exact absurd e hsz'
   subst hl0;simp only [Nat.zero_mul] at h1;have hA:∀f:Nat->Value,Array.map f (Array.range 0)=#[]:=fun f=>by apply Array.ext'; simp
   simp only [hA] at h1;simp [Instr.buildSlice,run_under (slice_of hT hk),sizeOf_run hE,newRow,hA];simp at h1;rw [h1];simp
  ·simp [Instr.buildSlice,run_under (slice_of hT hk),sizeOf_run hE,hn1,h0,zeroValue,typeInfo,hei,hzv,newRow];simp at h1;rw [h1];simp
 have hfl:=flatten_row h4;obtain⟨hd1,hd2⟩:=hl.data (.cells cs' e) (rows.length*ei.size);refine⟨_,_,.slice (some ⟨w.heap.size,0,none⟩) len len,j.frz w.heap.size (rows.length*ei.size),jl,by simp [execOp,hrun],.inl rfl, ?_,hd1,Ext.refl _,hd2⟩;have hm:=mk_slice (j:=j.frz w.heap.size (rows.length*ei.size)) (w:=w.alloc (.cells cs' e)) (k:=ei.size) (tok:=none) (rows:=rows) (b:=w.heap.size) (o:=0) (cap:=len) h4 (by
  rw [h3]; have:len*1<=len*ei.size:=Nat.mul_le_mul_left _ (by omega);unfold maxN; omega) (by omega) (fun i x hx=>?_) (fun t' ht'=>by simp at ht')
 ·rw [h3] at hm; rw [h3]; exact⟨hm,⟨w.heap.size,0,none⟩,by rw [h3]⟩
 ·have hil:=(List.getElem?_eq_some_iff.1 hx).1;obtain⟨v,hv,hr'⟩:=h2.get hx;refine⟨by simp only [J.frz,if_true]; omega,v, ?_,hr'.mono hd2.toLe⟩;rw [cell_of_row _ w.heap.size _ cs' e (0,0) (heap_alloc_new w _),Nat.zero_add]
  simpa using hv

theorem Cert.weakV {o:Oper}{fx:Fx}{v v':V}{ls':List (List D)}{h':Heap}(hc:Cert P o ts ls h fx v ls' h') (hv:∀j w jl cv,VRel j w jl v cv->VRel j w jl v' cv):Cert P o ts ls h fx v' ls' h':=by
 intro L H hL hH j w jl a hl ho K Q hk;exact hc L H hL hH j w jl a hl ho K Q fun u l k cv j' w' jl' ⟨e1,e2,e3⟩ hr=>hk v' l k cv j' w' jl' ⟨rfl,e2,e3⟩ (hv _ _ _ _ (e1▸hr))
theorem Cert.buildSlice {t e:TypeId}{ti ei:TI}{z:A}{len:Nat}{parts:Array (Nat×Operand)}{ps:List (Nat×A)}{rows:List (List D)}(hT:mkTI P t=some ti) (hk:ti.k=.slice e) (hE:mkTI P e=some ei)
  (hz:ei.zero=some z) (hzs:Nat.beq (cellsA z).length ei.size=true) (hsz:Nat.beq ei.size 0=false) (hlen:Nat.ble (len*ei.size) 16777216=true) (hp:evParts ts parts.toList=some ps) (hr:fillRows ei.size (List.replicate len (cellsA z)) ps=some rows) :
  Cert P (mk dst (.buildSlice t len parts) ty pos aft g) ts ls h {} (.a (.d (.slice ei.size none false rows))) ls h :=
 (Cert.buildSliceF hT hk hE hz hzs hsz hlen hp hr).weakV fun _ _ _ _ h=>h.1

theorem flatten_take {n:Nat}:∀{rows:List (List D)}(_:∀r∈rows,r.length=n) (k:Nat),(rows.take k).flatten=rows.flatten.take (k*n)
 | [],_,k=>by simp
 | r::rs,hk,0=>by simp
 | r::rs,hk,k+1=>by
  have hr:r.length=n:=hk r (by simp);rw [List.take_succ_cons,List.flatten_cons,flatten_take (fun x hx=>hk x (by simp [hx])),List.flatten_cons,show (k+1)*n=n+k*n by rw [Nat.add_mul]; omega];rw [show n+k*n=r.length+k*n by rw [hr],List.take_length_add_append]
theorem flatten_drop {n:Nat}:∀{rows:List (List D)}(_:∀r∈rows,r.length=n) (k:Nat),(rows.drop k).flatten=rows.flatten.drop (k*n)
 | [],_,k=>by simp
 | r::rs,hk,0=>by simp
 | r::rs,hk,k+1=>by
  have hr:r.length=n:=hk r (by simp);rw [List.drop_succ_cons,flatten_drop (fun x hx=>hk x (by simp [hx])),List.flatten_cons,show (k+1)*n=n+k*n by rw [Nat.add_mul]; omega];rw [show n+k*n=r.length+k*n by rw [hr],List.drop_length_add_append]

theorem part_rel {j:J}{w:World}{k:Nat}{rows:List (List D)}{b:Addr}{f:Nat->Value}{cap:Nat}(hk:∀r∈rows,r.length=k) (hn:rows.length<=maxN) (hc:rows.length<=cap)
  (hat:AtS j w b rows f) (hr:∀i (h:i<rows.flatten.length),DRel j w rows.flatten[i] (f i)){l r:Nat}(hl:l<=r) (hh:r<=rows.length) :
  DRel j w (.slice k none false ((rows.take r).drop l)) (.slice (some (if cap=l then b else b.add (l*k))) (r-l) (cap-l)):=by
 have hlen:((rows.take r).drop l).length=r-l:=by simp; omega
 have hk':∀x∈(rows.take r).drop l,x.length=k:=fun x hx=>hk x (List.mem_of_mem_take (List.mem_of_mem_drop hx));have hfl:((rows.take r).drop l).flatten=(rows.flatten.take (r*k)).drop (l*k):=by
  rw [flatten_drop (fun x hx=>hk x (List.mem_of_mem_take hx)),flatten_take hk]
 have hrk:r*k<=rows.flatten.length:=by rw [(flatten_row hk).1]; exact Nat.mul_le_mul_right k hh
 rw [<- hlen];by_cases hcl:cap=l
 ·rw [if_pos hcl];have hz:(rows.take r).drop l=[]:=List.eq_nil_of_length_eq_zero (by rw [hlen]; omega);rw [hz];exact DRel.slice k none [] b (cap-l) f (by simp) (by simp) (by simp) ⟨.inl rfl,by simp⟩ (by simp) (fun t ht=>by simp at ht)
 ·by_cases hre:rows=[]
  ·rw [if_neg hcl];have hz:(rows.take r).drop l=[]:=by rw [hre]; simp
   rw [hz];exact DRel.slice k none [] _ (cap-l) f (by simp) (by simp) (by simp) ⟨.inl rfl,by simp⟩ (by simp) (fun t ht=>by simp at ht)
  have hb:b=⟨b.block,b.off,none⟩:=by have:=hat.1.resolve_left hre; cases b; simp at this; simp [this]
  rw [if_neg hcl,hb,add_plain];refine mk_slice hk' (by rw [hlen]; omega) (by rw [hlen]; omega) (fun i x hx=>?_) (fun t ht=>by simp at ht);rw [hfl,List.getElem?_drop,List.getElem?_take] at hx
  split at hx
  ·rename_i hlt
   have hi:=(List.getElem?_eq_some_iff.1 hx).1;have h1:=hat.2 (l*k+i) hi;refine⟨by have:=h1.1; omega,f (l*k+i),by rw [Nat.add_assoc]; exact h1.2, ?_⟩;have h2:=hr (l*k+i) hi;rw [(List.getElem?_eq_some_iff.1 hx).2] at h2; exact h2
  ·simp at hx

theorem slice_run {P:Program}{t e:TypeId}{ti ei:TI}(hT:mkTI P t=some ti) (hk:ti.k=.slice e) (hE:mkTI P e=some ei){a:Option Addr}{len cap:Nat}{lo hi:Option Value}{w:World}{l r:Nat}
  (hl:(match lo with|some v=>Instr.sliceBound v r .sliceB|none=>pure 0).run P w=.ok l w) (hh:(match hi with|some v=>Instr.sliceBound v cap .sliceAcap|none=>pure len).run P w=.ok r w) :
  (Instr.sliceAt t (.slice a len cap) lo hi none).run P w=.ok (.slice (if cap=l then a else a.map (·.add (l*ei.size))) (r-l) (cap-l)) w:=by
 simp only [Instr.sliceAt,Instr.slice,Instr.sliceBounds,Sem.run_bind,run_under (slice_of hT hk),Result.andThen,Sem.run_pure,sizeOf_run hE];cases lo<;>cases hi<;>simp_all

theorem Cert.part {t e:TypeId}{ti ei:TI}{x:Operand}{lo hi:Option Operand}{k:Nat}{tok:Option Nat}{rows:List (List D)}{l r:Nat}(hT:mkTI P t=some ti) (hk:ti.k=.slice e) (hE:mkTI P e=some ei)
  (hx:ev ts x=.a (.d (.slice k tok false rows))) (hkk:k=ei.size)
  (hlo:match lo with|none=>l=0|some o=>∃ik n,ev ts o=.a (.d (.int ik n))/\0<=n/\l=n.toNat) (hhi:match hi with|none=>r=rows.length|some o=>∃ik n,ev ts o=.a (.d (.int ik n))/\0<=n/\r=n.toNat)
  (hlr:l<=r) (hrr:r<=rows.length):Cert P (mk dst (.slice t x lo hi none) ty pos aft g) ts ls h {} (.a (.d (.slice k none false ((rows.take r).drop l)))) ls h :=
 Cert.of_ops fun j w jl act ho=>by
  have h1:=ho x (by simp [Op.operands]);rw [hx] at h1;obtain⟨b,cap,e1,hn,hc,hnil,hnone,hkr,hb⟩:=rel_slice h1;cases b with
  | none=>simp at hnil
  | some b =>
   obtain⟨_,f,hat,hrr'⟩:=hb b rfl;have hb1:(match lo.map act.eval with|some v=>Instr.sliceBound v r .sliceB|none=>pure 0).run P w=.ok l w:=by
    cases lo with
    | none=>simp at hlo ⊢; exact hlo.symm
    | some o =>
     obtain⟨ik,n,h2,h3,h4⟩:=hlo;have:=bound_run (P:=P) (cap:=r) h2 (ho o (by simp [Op.operands])) h3 (by omega) .sliceB;simp only [Option.map_some]; rw [this,h4]
   have hb2:(match hi.map act.eval with|some v=>Instr.sliceBound v cap .sliceAcap|none=>pure rows.length).run P w=.ok r w:=by
    cases hi with
    | none=>simp at hhi ⊢; exact hhi.symm
    | some o =>
     obtain⟨ik,n,h2,h3,h4⟩:=hhi;have:=bound_run (P:=P) (cap:=cap) h2 (ho o (by simp [Op.operands])) h3 (by omega) .sliceAcap;simp only [Option.map_some]; rw [this,h4]
   refine⟨_, ?_,part_rel hkr hn hc hat hrr' hlr hrr⟩;have:=slice_run hT hk hE (a:=some b) (len:=rows.length) (cap:=cap) hb1 hb2;simp only [execOp,Sem.run_bind,e1,Option.map_none,this,Result.andThen,Sem.run_pure,hkk];by_cases hcl:cap=l<;>simp [hcl]

theorem Cert.field {t:TypeId}{ti fi:TI}{fs:List (Nat×TypeId)}{x:Operand}{f o:Nat}{ft:TypeId}{xs:List D}{v:A}(hT:mkTI P t=some ti) (hk:ti.k=.struct fs) (hf:fs[f]?=some (o,ft)) (hF:mkTI P ft=some fi) (hko:fi.k.isO=false)
  (hx:ev ts x=.a (.agg xs)) (hv:(match aggK fi.k with|true=>some (A.agg ((xs.drop o).take fi.size))|false=>(xs[o]?).map A.d)=some v):Cert P (mk dst (.field t x f) ty pos aft g) ts ls h {} (.a v) ls h :=
 Cert.of_ops fun j w jl a ho=>by
  have h1:=ho x (by simp [Op.operands]);rw [hx] at h1;obtain⟨cs,e1,r1⟩:=h1;obtain⟨gs,hu,he⟩:=struct_of hT hk;have hg:∃fd:Field,gs[f]?=some fd/\fd.offset=o/\fd.type=ft:=by
   rw [<- he,List.getElem?_map] at hf;cases e:gs.toList[f]? with
   | none=>rw [e] at hf; simp at hf
   | some fd=>rw [e] at hf; simp at hf; exact⟨fd,by simpa using e,hf.1,hf.2⟩
  obtain⟨fd,h1,h2,h3⟩:=hg;cases hagg:aggK fi.k with
  | true =>
   rw [hagg] at hv; simp at hv; subst hv;refine⟨.agg (cs.toArray.extract o (o+fi.size)), ?_,⟨(cs.drop o).take fi.size, ?_,(r1.drop o).take fi.size⟩⟩
   ·simp [execOp,Instr.field,run_under hu,h1,Go.part,h2,h3,isAgg_run hF (K.ne_other hko),hagg,sizeOf_run hF,asAgg,e1]
   ·congr 1; apply Array.ext'; simp [List.drop_take]
  | false =>
   rw [hagg] at hv;simp only [Option.map_eq_some_iff] at hv;obtain⟨d,hd,rfl⟩:=hv;obtain⟨cv,hcv,hr⟩:=r1.get hd;refine⟨cv, ?_,hr⟩;simp [execOp,Instr.field,run_under hu,h1,Go.part,h2,h3,isAgg_run hF (K.ne_other hko),hagg,asAgg,e1,hcv]
end

end Go.Ab

/-
 Maps with plain keys.
-/
namespace Go.Ab
open Go Go.RowKit
variable {lou:Lou}

def eqKey:D->D->Option Bool
 | .str s,.str t=>some (s==t)
 | .int k m,.int k' n=>if k=k' then some (decide (m=n)) else none
 | .bool a,.bool b=>some (a==b)
 | _,_=>none

def findM (key:D):List (D×A)->Option (Option A)
 | []=>some none
 | (k,v)::r=>match eqKey key k with
  | some true=>some (some v)
  | some false=>findM key r
  | none=>none

def updM (key:D) (v:A):List (D×A)->Option (List (D×A))
 | []=>some [(key,v)]
 | (k,u)::r=>match eqKey key k with
  | some true=>some ((key,v)::r)
  | some false=>(updM key v r).map ((k,u)::·)
  | none=>none

def keyK:K->D->Bool
 | .str,.str _=>true
 | .int _,.int _ _=>true
 | .bool,.bool _=>true
 | _,_=>false

theorem bytes_beq (a b:List UInt8):((⟨a.toArray⟩:ByteArray)==⟨b.toArray⟩)=(a==b):=by
 rw [beq_toListBytes]; simp

theorem sameNow_rel {j:J}{w:World}{d:TypeDesc}{key k:D}{kv v:Value}{b:Bool}(hd:keyK (kOf d) key=true) (hk:DRel j w key kv) (hv:DRel j w k v) (he:eqKey key k=some b):Instr.sameNow d kv v=some b:=by
 unfold eqKey at he
 split at he
 ·cases hk; cases hv;simp only [Option.some.injEq] at he; subst he;cases d<;>simp [keyK,kOf] at hd;simp only [Instr.sameNow,bytes_beq]
 ·cases hk; cases hv
  split at he
  ·rename_i e; subst e
   simp only [Option.some.injEq] at he; subst he;cases d<;>simp [keyK,kOf] at hd;simp only [Instr.sameNow,if_true]; rfl
  ·simp at he
 ·cases hk; cases hv;simp only [Option.some.injEq] at he; subst he;cases d<;>simp [keyK,kOf] at hd;simp only [Instr.sameNow]
 ·simp at he

theorem findNow_rel {j:J}{w:World}{d:TypeDesc}{key:D}{kv:Value}(hd:keyK (kOf d) key=true) (hk:DRel j w key kv){es:List (D×A)}{ms:List MapEntry}(h:All2 (ERel j w) es ms):∀(n:Nat) (r:Option A),findM key es=some r ->
  match r with
  | none=>Instr.findNow d kv ms n=some none
  | some v=>∃i cv,Instr.findNow d kv ms n=some (some (n+i,cv))/\ARel j w v cv/\∃m,ms[i]?=some m/\m.val=cv/\Instr.sameNow d kv m.key=some true:=by
 induction h with
 | nil=>intro n r hr; simp [findM] at hr; subst hr; rfl
 | cons hh ht ih =>
  rename_i e m l ms'
  intro n r hr;obtain⟨k,u⟩:=e;simp only [findM] at hr
  split at hr
  ·rename_i he
   simp at hr; subst hr;have hs:=sameNow_rel hd hk hh.1 he;exact⟨0,m.val,by simp [Instr.findNow,hs],hh.2,m,rfl,rfl,hs⟩
  ·rename_i he
   have hs:=sameNow_rel hd hk hh.1 he;have:=ih (n+1) r hr;cases r with
   | none=>simp only [Instr.findNow,hs]; exact this
   | some v =>
    obtain⟨i,cv,h1,h2,m',h3,h4,h5⟩:=this;exact⟨i+1,cv,by simp only [Instr.findNow,hs]; rw [h1,show n+1+i=n+(i+1) by omega],h2,m',by simpa using h3,h4,h5⟩
  ·simp at hr

theorem updM_rel {j:J}{w:World}{d:TypeDesc}{key:D}{kv:Value}{v:A}{cv:Value}(hd:keyK (kOf d) key=true) (hk:DRel j w key kv) (hv:ARel j w v cv){es:List (D×A)}{ms:List MapEntry}(h:All2 (ERel j w) es ms):∀(n clk:Nat) (es':List (D×A)),updM key v es=some es' ->
  (Instr.findNow d kv ms n=some none/\All2 (ERel j w) es' (ms++[{ key:=kv,val:=cv,born:=clk }])) \/
  (∃i u m,Instr.findNow d kv ms n=some (some (n+i,u))/\ms[i]?=some m/\Instr.sameNow d kv m.key=some true/\All2 (ERel j w) es' (ms.set i { m with key:=kv,val:=cv })):=by
 induction h with
 | nil=>intro n clk es' he; simp [updM] at he; subst he; exact .inl ⟨rfl,.cons ⟨hk,hv⟩ .nil⟩
 | cons hh ht ih =>
  rename_i e m l ms'
  intro n clk es' he;obtain⟨k,u⟩:=e;simp only [updM] at he
  split at he
  ·rename_i hq
   simp at he; subst he;have hs:=sameNow_rel hd hk hh.1 hq;exact .inr ⟨0,m.val,m,by simp [Instr.findNow,hs],rfl,hs,.cons ⟨hk,hv⟩ ht⟩
  ·rename_i hq
   have hs:=sameNow_rel hd hk hh.1 hq;simp only [Option.map_eq_some_iff] at he;obtain⟨r,hr,rfl⟩:=he;rcases ih (n+1) clk r hr with ⟨h1,h2⟩|⟨i,u',m',h1,h2,h3,h4⟩
   ·exact .inl ⟨by simp only [Instr.findNow,hs]; exact h1,.cons hh h2⟩
   ·exact .inr ⟨i+1,u',m',by simp only [Instr.findNow,hs]; rw [h1,show n+1+i=n+(i+1) by omega],by simpa using h2,h3,.cons hh h4⟩
  ·simp at he

theorem map_of {P:Program}{t:TypeId}{ti:TI}{k e:TypeId}(hT:mkTI P t=some ti) (hk:ti.k=.map k e):P.underlying t=some (.map k e):=by
 obtain⟨i,d,h1,h2,_,_,h3,_⟩:=mkTI_spec hT;rw [hk] at h3;cases d<;>simp [kOf] at h3;obtain⟨rfl,rfl⟩:=h3; exact h2

theorem checkKey_run {P:Program}{b:Bool}{n:Nat}{t:TypeId}{d:TypeDesc}{x:D}{v:Value}{j:J}{w0 w:World}(hu:P.underlying t=some d) (hd:keyK (kOf d) x=true) (hx:DRel j w0 x v):(Instr.checkKey b (n+1) t v).run P w=.ok () w:=by
 cases hx<;>cases d<;>simp [keyK,kOf] at hd<;>simp [Instr.checkKey,run_under hu]

section
variable {P:Program}{ts:Ts}{ls:List (List D)}{h:Heap}{dst:Option Tmp}{ty:TypeId}{pos:String}{aft:Array Edge}{g:Option (Nat×Bool)}

theorem bytes_eq {a b:ByteArray}(h:(a==b)=true):a=b:=by
 obtain⟨⟨x⟩⟩:=a;obtain⟨⟨y⟩⟩:=b;have h':=bytes_beq x y;have h2:(x==y)=true:=by rw [<- h']; exact h
 rw [eq_of_beq h2]
theorem bytes_self (a:ByteArray):(a==a)=true:=by
 obtain⟨⟨x⟩⟩:=a;have h':=bytes_beq x x;rw [show ((⟨⟨x⟩⟩:ByteArray)==⟨⟨x⟩⟩)=(x==x) from h'];simp
theorem sameNow_self {d:TypeDesc}{v:Value}:Instr.sameNow d v v≠some false:=by
 cases d<;>cases v<;>simp [Instr.sameNow,bytes_self]
theorem sameNow_eq {d:TypeDesc}{a b:Value}(h:Instr.sameNow d a b=some true):a=b:=by
 unfold Instr.sameNow at h
 split at h
 ·split at h
  ·rename_i e; subst e; simp at h; rw [h]
  ·simp at h
 ·exact congrArg Value.string (bytes_eq (Option.some.inj h))
 ·simp at h; rw [h]
 ·simp at h
theorem findNow_none {d:TypeDesc}{v:Value}:∀{ms:List MapEntry}{n:Nat},Instr.findNow d v ms n=some none->∀m∈ms,m.key≠v
 | [],_,_=>fun _ h=>by cases h
 | x::ms,n,h=>fun m hm e=>by
  rw [Instr.findNow] at h
  split at h
  ·simp at h
  ·rename_i h1
   rcases List.mem_cons.1 hm with rfl|hm
   ·rw [e] at h1; exact sameNow_self h1
   ·exact findNow_none h m hm e
  ·simp at h
theorem Births.push {ms:List MapEntry}{clk:Nat}(h:Births ms clk){k:Value}(hk:∀m∈ms,m.key≠k) (v:Value):Births (ms++[⟨k,v,clk⟩]) (clk+1):=by
 refine⟨?_,fun m hm=>?_, ?_⟩
 ·rw [List.map_append,List.nodup_append];refine⟨h.1,by simp,fun a ha b hb e=>?_⟩;obtain⟨m,hm,rfl⟩:=List.mem_map.1 ha;simp only [List.map_cons,List.map_nil,List.mem_singleton] at hb;have:=h.2.1 m hm;omega
 ·rcases List.mem_append.1 hm with hm|hm
  ·have:=h.2.1 m hm; omega
  ·rw [List.mem_singleton.1 hm]; exact Nat.lt_succ_self _
 ·rw [List.map_append,List.nodup_append];refine⟨h.2.2,by simp,fun a ha b hb e=>?_⟩;obtain⟨m,hm,rfl⟩:=List.mem_map.1 ha;simp only [List.map_cons,List.map_nil,List.mem_singleton] at hb;exact hk m hm (e.trans hb)
theorem map_setE {β:Type}{f:MapEntry->β}{ms:List MapEntry}{i:Nat}{m m':MapEntry}(hm:ms[i]?=some m) (hf:f m'=f m):(ms.set i m').map f=ms.map f:=by
 refine List.ext_getElem? fun n=>?_;rw [List.getElem?_map,List.getElem?_map,List.getElem?_set];by_cases hn:i=n
 ·subst hn;obtain⟨hlt,h2⟩:=List.getElem?_eq_some_iff.1 hm;simp [hlt,h2,hf]
 ·simp [hn]
theorem Births.set {ms:List MapEntry}{clk i:Nat}{m:MapEntry}(h:Births ms clk) (hm:ms[i]?=some m){k v:Value}(hk:k=m.key):Births (ms.set i { m with key:=k,val:=v }) clk:=by
 have e:=map_setE (f:=(·.born)) (m':={ m with key:=k,val:=v }) hm rfl;refine⟨by rw [e]; exact h.1,fun x hx=>?_,by rw [map_setE (f:=(·.key)) hm hk]; exact h.2.2⟩;have:x.born∈ms.map (·.born):=by rw [<- e]; exact List.mem_map_of_mem hx
 obtain⟨y,hy,hy2⟩:=List.mem_map.1 this;rw [<- hy2]; exact h.2.1 y hy
def MapAt (j:J) (w:World) (id b:Nat) (es:List (D×A)):Prop:=∃(c:Nat) (ms:List MapEntry) (clk:Nat),j.tok id=some ⟨some (b,c),1⟩/\w.heap[b]?=some (.map ms.toArray clk)/\All2 (ERel j w) es ms/\j.F b=0/\Births ms clk
theorem rel_map {j:J}{w:World}{jl:List Nat}{id:Nat}{es:List (D×A)}{cv:Value}(ho:ORel j w id (.map es)) (h:VRel j w jl (.a (.d (.map id))) cv):∃b,cv=.map (some b)/\MapAt j w id b es:=by
 have h':DRel j w (.map id) cv:=h;obtain⟨b,c,ms,clk,h1,h2,h3,h4,h7⟩:=ho;cases h' with
 | map _ b' hi hv =>
  obtain⟨_,h5⟩:=hv _ h1;obtain⟨c',h6⟩:=h5 rfl;simp only [Option.some.injEq,Prod.mk.injEq] at h6;obtain⟨rfl,rfl⟩:=h6;exact⟨b,rfl,c,ms,clk,h1,h2,h3,h4,h7⟩

theorem getObj_run {P:Program}{w:World}{b:Nat}{ms:Array MapEntry}{clk:Nat}(h:w.heap[b]?=some (.map ms clk)):(getObj b).run P w=.ok (.map ms clk) w:=by
 simp [getObj,Sem.run,h]

theorem lookup_run {t kt et:TypeId}{ti ki:TI}{j:J}{w:World}{id:Nat}{es:List (D×A)}{key:D}{kv:Value}{r:Option A}{ok:Bool}(hT:mkTI P t=some ti) (hk:ti.k=.map kt et) (hK:mkTI P kt=some ki) (hkk:keyK ki.k key=true)
  {b:Nat}(hm:MapAt j w id b es) (hkey:DRel j w key kv) (hf:findM key es=some r){zv:Value}(hz:r=none->(zeroValue et).run P w=.ok zv w) :
  ∃cv,(Instr.lookup t (.map (some b)) kv ok).run P w=.ok (if ok then .tuple #[cv,.bool r.isSome] else cv) w/\match r with|none=>cv=zv|some v=>ARel j w v cv:=by
 obtain⟨_,ms,clk,_,hg,hall,_⟩:=hm;obtain⟨ki',kd,_,hku,_,_,hkd,_⟩:=mkTI_spec hK;rw [<- hkd] at hkk;have hfn:=findNow_rel hkk hkey hall 0 r hf;cases r with
 | none =>
  refine⟨zv, ?_,rfl⟩;simp [Instr.lookup,run_under (map_of hT hk),getObj_run hg,checkKey_run hku hkk hkey,Instr.findKey,run_under hku,hfn,hz rfl]
 | some v =>
  obtain⟨i,cv,h1,h2,_⟩:=hfn;refine⟨cv, ?_,h2⟩;simp [Instr.lookup,run_under (map_of hT hk),getObj_run hg,checkKey_run hku hkk hkey,Instr.findKey,run_under hku,h1]

theorem Cert.lookupHit {t kt et:TypeId}{ti ki:TI}{x y:Operand}{id:Nat}{es:List (D×A)}{key:D}{v:A}(hT:mkTI P t=some ti) (hk:ti.k=.map kt et) (hK:mkTI P kt=some ki) (hx:ev ts x=.a (.d (.map id))) (hy:ev ts y=.a (.d key))
  (hkk:keyK ki.k key=true) (hm:h id=some (.map es)) (hf:findM key es=some (some v)):Cert P (mk dst (.lookup t x y false) ty pos aft g) ts ls h { rh:=true } (.a v) ls h :=
 PureE.cert ⟨rfl,rfl,fun L H _ hH j w jl a hl ho=>by
  have h1:=ho x (by simp [Op.operands]);have h2:=ho y (by simp [Op.operands]);rw [hx] at h1; rw [hy] at h2;rw [hH rfl] at hl;obtain⟨b,e1,hA⟩:=rel_map (hl.1.obj id _ hm).2 h1;obtain⟨cv,h3,h4⟩:=lookup_run (ok:=false) hT hk hK hkk hA h2 hf (zv:=undef) (by simp);exact⟨cv,by simp only [execOp,Sem.run_bind,e1,h3,Result.andThen,Sem.run_pure]; rfl,h4⟩⟩

theorem Cert.lookupMiss {t kt et:TypeId}{ti ki ei:TI}{x y:Operand}{id:Nat}{es:List (D×A)}{key:D}{z:A}(hT:mkTI P t=some ti) (hk:ti.k=.map kt et) (hK:mkTI P kt=some ki) (hE:mkTI P et=some ei) (hz:ei.zero=some z)
  (hx:ev ts x=.a (.d (.map id))) (hy:ev ts y=.a (.d key)) (hkk:keyK ki.k key=true) (hm:h id=some (.map es)) (hf:findM key es=some none):Cert P (mk dst (.lookup t x y false) ty pos aft g) ts ls h { rh:=true } (.a z) ls h :=
 PureE.cert ⟨rfl,rfl,fun L H _ hH j w jl a hl ho=>by
  have h1:=ho x (by simp [Op.operands]);have h2:=ho y (by simp [Op.operands]);rw [hx] at h1; rw [hy] at h2;rw [hH rfl] at hl;obtain⟨einf,ed,hei,_,hes,heb,_,hez⟩:=mkTI_spec hE;rw [hz] at hez;obtain⟨zv,hzv,hzr⟩:=zeroF_rel hez;obtain⟨b,e1,hA⟩:=rel_map (hl.1.obj id _ hm).2 h1;obtain⟨cv,h3,h4⟩:=lookup_run (ok:=false) hT hk hK hkk hA h2 hf (zv:=zv) (fun _=>by simp [zeroValue,typeInfo,hei,hzv]);dsimp only at h4
  subst h4;exact⟨cv,by simp only [execOp,Sem.run_bind,e1,h3,Result.andThen,Sem.run_pure]; rfl,hzr j w⟩⟩

theorem StepE.makeMap {t:TypeId}:StepE P (mk dst (.makeMap t none) ty pos aft g) ts ls h fun v ls' h'=>∃id,h id=none/\v=.a (.d (.map id))/\ls'=ls/\h'=h.set id (some (.map [])):=by
 intro j w jl a hl ho K Q hk;have hr:(execOp a.eval (mk dst (.makeMap t none) ty pos aft g)).run P w=.ok (.value (.map (some w.heap.size))) (w.alloc (.map #[] 0)):=by simp [execOp,Instr.makeMap]
 obtain⟨h1,h2⟩:=hl.newTok 0;obtain⟨h3,h4,h5⟩:=h1.bornMap (Heap.set_same _ _ _);unfold Oper.wp;rw [hr,Oper.upon_value];exact hk _ _ _ _ _ _ jl ⟨j.next,hl.1.next_none (Nat.le_refl _),rfl,rfl,(Heap.set_set _ _ _ _)⟩ h5 h3 (Ext.refl _) (h2.trans h4)

theorem sameBits_of {d:TypeDesc}{a b:Value}(h:Instr.sameNow d a b=some true):Instr.sameBits 10000 b a=true:=by
 unfold Instr.sameNow at h
 split at h
 ·split at h
  ·rename_i e; subst e; simp at h; subst h; simp [Instr.sameBits]
  ·simp at h
 ·simp only [Option.some.injEq] at h;rw [beq_toListBytes] at h;simp only [Instr.sameBits,beq_toListBytes];simp at h ⊢; exact h.symm
 ·simp at h; subst h; simp [Instr.sameBits]
 ·simp at h

theorem Upd.setObj {w:World}{b:Nat}{o o':Go.Obj}(h:w.heap[b]?=some o):Upd w { w with heap:=w.heap.setIfInBounds b o' } b o':=by
 have hlt:=lt_of_heap h;refine⟨by simp,by simp [hlt],fun x hx=>?_,rfl,rfl,Outs.rfl⟩;simp [Array.getElem?_setIfInBounds,Ne.symm hx]

theorem Cert.mapUpdate {t kt et:TypeId}{ti ki:TI}{x y z:Operand}{id:Nat}{es es':List (D×A)}{key:D}{v:A}(hT:mkTI P t=some ti) (hk:ti.k=.map kt et) (hK:mkTI P kt=some ki) (hx:ev ts x=.a (.d (.map id))) (hy:ev ts y=.a (.d key)) (hz:ev ts z=.a v)
  (hkk:keyK ki.k key=true) (hm:h id=some (.map es)) (hu:updM key v es=some es') (hd:dst=none):Cert P (mk dst (.mapUpdate t x y z) ty pos aft g) ts ls h { rh:=true,wh:=true } .any ls (h.set id (some (.map es'))):=by
 refine Cert.of_run fun L H _ hH j w jl a hl ho=>?_;have hH':=hH rfl;subst hH';have h1:=ho x (by simp [Op.operands]);have h2:=ho y (by simp [Op.operands]);have h3:=ho z (by simp [Op.operands]);rw [hx] at h1; rw [hy] at h2; rw [hz] at h3;obtain⟨b,e,c,ms,clk,htk,hg,hall,hF,hB⟩:=rel_map (hl.1.obj id _ hm).2 h1;obtain⟨ki',kd,_,hku,_,_,hkd,_⟩:=mkTI_spec hK;rw [<- hkd] at hkk;have hfin:∀(ms':List MapEntry) (clk':Nat),All2 (ERel j w) es' ms'->Births ms' clk'->(Instr.mapUpdate t (.map (some b)) (a.eval y) (a.eval z)).run P w=.ok () { w with heap:=w.heap.setIfInBounds b (.map ms'.toArray clk') } ->
   ∃r w' cv j' jl',(execOp a.eval (mk dst (.mapUpdate t x y z) ty pos aft g)).run P w=.ok r w'/\(r=.value cv\/(r=.skip/\cv=undef))/\VRel j' w' jl' .any cv/\HL j' w' jl' L (H.set id (some (.map es')))/\Ext jl jl' /\
    Evolve j w (Own j H jl) j' w' (Own j' (H.set id (some (.map es'))) jl'):=by
  intro ms' clk' hall' hB' hrun;have hupd:=Upd.setObj (lou:=lou) (o':=.map ms'.toArray clk') hg;have hle:=hupd.le (j:=j) hF;obtain⟨h5,h6⟩:=hl.setObj (o':=.map es') hm (by simp [blkOf,htk]) (by simp [blkOf,htk]) hF hupd ⟨b,c,ms',clk',htk,hupd.here,hall'.imp fun _ _ h=>h.mono hle,hF,hB'⟩;refine⟨.skip,_,undef,j,jl, ?_,.inr ⟨rfl,rfl⟩,trivial,h5,Ext.refl _,h6⟩;simp only [execOp,e,Sem.run_bind,hrun,Result.andThen,Sem.run_pure]
 rcases updM_rel hkk h2 h3 hall 0 clk es' hu with ⟨h4,h5⟩|⟨i,u,m,h4,h5,h6,h7⟩
 ·refine hfin _ (clk+1) h5 (hB.push (findNow_none h4) _) ?_;simp [Instr.mapUpdate,run_under (map_of hT hk),getObj_run hg,checkKey_run hku hkk h2,Instr.findKey,run_under hku,h4,setObj,Sem.run,hg]
 ·refine hfin _ clk h7 (hB.set h5 (sameNow_eq h6)) ?_;have hsb:=sameBits_of h6;rw [Nat.zero_add] at h4;simp [Instr.mapUpdate,run_under (map_of hT hk),getObj_run hg,checkKey_run hku hkk h2,Instr.findKey,run_under hku,h4,h5,Instr.keyThatStays,hsb,setObj,Sem.run,hg]
  congr 2
  apply Array.ext'
  simp
  apply List.ext_getElem?
  intro n;simp only [List.getElem?_modify,List.getElem?_set];by_cases hn:i=n
  ·subst hn;have hlt:=(List.getElem?_eq_some_iff.1 h5).1;have h8:=(List.getElem?_eq_some_iff.1 h5).2;simp [hlt,h8]
  ·simp [hn]

end
end Go.Ab
