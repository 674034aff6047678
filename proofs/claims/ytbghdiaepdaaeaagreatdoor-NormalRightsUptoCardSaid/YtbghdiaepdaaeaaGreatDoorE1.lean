import Derived.WalkKit
import Derived.Orders
import Derived.Laws.Rows
set_option maxRecDepth 100000
set_option maxHeartbeats 2000000
set_option linter.unusedVariables false
set_option linter.unusedSimpArgs false
/-
 The abstract reading of memory: plain data D,the ghost map J,when a Go value reads as a datum,and how a world may evolve. No program text.
-/
namespace Go.Ab
open Go Go.RowKit
inductive D where
 | bool (b:Bool)
 | int (k:IntKind) (n:Int)
 | str (s:List UInt8)
 | slice (k:Nat) (tok:Option Nat) (nil:Bool) (rows:List (List D))
 | arr (k id:Nat) (nl:Bool) (len:Nat)
 | eX (id m off:Nat)
 | ep
 | ptr (id off:Nat)
 | view (cells:List D)
 | jK
 | map (id:Nat)
 | nilFunc
 | func (f:FuncId) (bZ:List D)
 | yield (l:Nat)
 | ru
 | nilIface
 | iface (t:TypeId) (x:D)
 deriving Inhabited
inductive A where
 | d (x:D)
 | agg (xs:List D)
 deriving Inhabited
inductive V where
 | any
 | a (x:A)
 | cV (i off:Nat)
 | cS (xs:List A)
 | gd (c:Bool) (x:A)
 | gr (c:Bool) (i off:Nat)
 | full (k:Nat) (rows:List (List D))
 | oe (c:Bool) (k:Nat) (rows:List (List D))
 deriving Inhabited
inductive Obj where
 | cells (xs:List D)
 | map (es:List (D×A))
 | tok (k m:Nat) (E:Option TypeId:=none)
 | arr (k:Nat) (rows:List (List D))
 | fix (b:Nat) (o:Go.Obj)
 | dz (T:TypeId) (xs:List D)
 | dS (b:Nat) (o:Go.Obj)
abbrev ah:=Nat->Option Obj
def ah.set (h:ah) (i:Nat) (o:Option Obj):ah:=fun n=>if n=i then o else h n
structure Tk where
 dP:Option (Nat×Nat)
 m:Nat
structure J where
 out:Nat->Nat
 F:Nat->Nat
 tok:Nat->Option Tk
 next:Nat
inductive aW {α β:Type}(R:α->β->Prop):List α->List β->Prop where
 | nil:aW R [] []
 | cons {a b l m} (h:R a b) (t:aW R l m):aW R (a::l) (b::m)
theorem aW.imp {α β:Type}{R S:α->β->Prop}(h:∀a b,R a b->S a b){l:List α}{m:List β}(hl:aW R l m):aW S l m:=by
 induction hl with
 | nil=>exact .nil
 | cons x _ f=>exact .cons (h _ _ x) f
theorem aW.length {α β:Type}{R:α->β->Prop}{l:List α}{m:List β}(h:aW R l m):l.length=m.length:=by
 induction h with
 | nil=>rfl
 | cons _ _ b=>simp [b]
theorem aW.get {α β:Type}{R:α->β->Prop}{l:List α}{m:List β}(h:aW R l m):∀{i:Nat}{x:α},l[i]?=some x->∃y,m[i]?=some y/\R x y:=by
 induction h with
 | nil=>intro i x b; simp at b
 | cons hh _ f =>
  intro i x b;cases i with
  | zero=>simp at b; subst b; exact⟨_,rfl,hh⟩
  | succ i=>simp at b; simpa using f b
theorem aW.get' {α β:Type}{R:α->β->Prop}{l:List α}{m:List β}(h:aW R l m):∀{i:Nat}{y:β},m[i]?=some y->∃x,l[i]?=some x/\R x y:=by
 induction h with
 | nil=>intro i x b; simp at b
 | cons hh _ f =>
  intro i x b;cases i with
  | zero=>simp at b; subst b; exact⟨_,rfl,hh⟩
  | succ i=>simp at b; simpa using f b
theorem aW.kO {α β:Type}{R:α->β->Prop}:∀{l:List α}{m:List β},l.length=m.length->(∀(i:Nat) x y,l[i]?=some x->m[i]?=some y->R x y)->aW R l m
 | [],[],_,_=>.nil
 | [],_::_,h,_=>by simp at h
 | _::_,[],h,_=>by simp at h
 | a::l,b::m,h,hr=>.cons (hr 0 a b rfl rfl) (aW.kO (by simpa using h) fun i x y f g=>hr (i+1) x y (by simpa using f) (by simpa using g))
theorem aW.append {α β:Type}{R:α->β->Prop}{l l':List α}{m m':List β}(h:aW R l m) (h':aW R l' m'):aW R (l++l') (m++m'):=by
 induction h with
 | nil=>exact h'
 | cons x _ b=>exact .cons x b
theorem aW.set {α β:Type}{R:α->β->Prop}{l:List α}{m:List β}(h:aW R l m){a:α}{b:β}(hr:R a b) (i:Nat):aW R (l.set i a) (m.set i b):=by
 induction h generalizing i with
 | nil=>exact .nil
 | cons x t f =>
  cases i with
  | zero=>exact .cons hr t
  | succ i=>exact .cons x (f i)
theorem aW.take {α β:Type}{R:α->β->Prop}{l:List α}{m:List β}(h:aW R l m) (n:Nat):aW R (l.take n) (m.take n):=by
 induction h generalizing n with
 | nil=>simp; exact .nil
 | cons x t b =>
  cases n with
  | zero=>exact .nil
  | succ n=>exact .cons x (b n)
def cL:Nat:=140737488355328
def eF:Nat:=4611686018427387904
def ry (j:J) (tok:Option Nat) (n:Nat) (a:Addr) (cap:Nat):Prop :=
 ∀t,tok=some t->t<j.next/\∀k,j.tok t=some k->n<=k.m/\(n=k.m->(k.dP=none/\cap=n)\/∃b,k.dP=some (b,cap)/\a=⟨b,0,none⟩)
def uc (j:J) (id:Nat) (nl:Bool) (len:Nat) (a:Option Addr) (cap:Nat):Prop :=
 ∀tk,j.tok id=some tk->len<=tk.m/\(len=tk.m->(tk.dP=none/\nl=a.isNone/\cap=0)\/∃b,tk.dP=some (b,cap)/\a=some ⟨b,0,none⟩/\nl=false)
def At (j:J) (w:World) (a:Addr) (n:Nat) (cv:Nat->Value):Prop :=
 a.spot=none/\∀i,i<n->a.off+i<j.F a.block/\w.cell? ⟨a.block,a.off+i,none⟩=some (cv i)
def pY (j:J) (w:World) (a:Addr) (rows:List (List D)) (cv:Nat->Value):Prop :=
 (rows=[]\/a.spot=none)/\∀i,i<rows.flatten.length->a.off+i<j.F a.block/\w.cell? ⟨a.block,a.off+i,none⟩=some (cv i)
inductive aB (j:J) (w:World):D->Value->Prop
 | bool (b:Bool):aB j w (.bool b) (.bool b)
 | int (k:IntKind) (n:Int):aB j w (.int k n) (.int k n)
 | str (s:List UInt8) (h:s.length<=eF):aB j w (.str s) (.string ⟨s.toArray⟩)
 | fB (k:Nat) (tok:Option Nat) (ht:∀t,tok=some t->t<j.next):aB j w (.slice k tok true []) (.slice none 0 0)
 | slice (k:Nat) (tok:Option Nat) (rows:List (List D)) (a:Addr) (cap:Nat) (cv:Nat->Value)
   (hk:∀r∈rows,r.length=k) (hn:rows.length<=cL) (hc:rows.length<=cap)
   (bH:pY j w a rows cv) (hr:∀i (h:i<rows.flatten.length),aB j w rows.flatten[i] (cv i))
   (ht:ry j tok rows.length a cap):aB j w (.slice k tok false rows) (.slice (some a) rows.length cap)
 | arr (k id:Nat) (nl:Bool) (len:Nat) (a:Option Addr) (cap:Nat) (hid:id<j.next) (hv:uc j id nl len a cap):aB j w (.arr k id nl len) (.slice a len cap)
 | eX (id m off b:Nat) (hid:id<j.next) (hv:∀tk,j.tok id=some tk->m<=tk.m/\(m=tk.m->∃c,tk.dP=some (b,c))):aB j w (.eX id m off) (.pointer (some ⟨b,off,none⟩))
 | ep:aB j w .ep (.pointer none)
 | ptr (id off:Nat) (h:id<j.next):aB j w (.ptr id off) (.pointer (some ⟨j.out id,off,none⟩))
 | view (cells:List D) (a:Addr) (cv:Nat->Value) (bH:At j w a cells.length cv) (hr:∀i (h:i<cells.length),aB j w cells[i] (cv i)) :
   aB j w (.view cells) (.pointer (some a))
 | jK:aB j w .jK (.map none)
 | map (id b:Nat) (hid:id<j.next) (hv:∀tk,j.tok id=some tk->1<=tk.m/\(tk.m=1->∃c,tk.dP=some (b,c))):aB j w (.map id) (.map (some b))
 | nilFunc:aB j w .nilFunc .nilFunc
 | func (f:FuncId) (bZ:List D) (gK:List Value) (hl:bZ.length=gK.length) (hr:∀i (h:i<bZ.length) (h':i<gK.length),aB j w bZ[i] gK[i]) :
   aB j w (.func f bZ) (.func (.func f) #[] gK.toArray)
 | yield (l:Nat):aB j w (.yield l) (.func (.yield l) #[] #[])
 | ru (t:Fn) (b c:Array Value):aB j w .ru (.func t b c)
 | nilIface:aB j w .nilIface .nilIface
 | iface (t:TypeId) (x:D) (v:Value) (h:aB j w x v):aB j w (.iface t x) (.iface t v)
def cM (j:J) (w:World):A->Value->Prop
 | .d x,v=>aB j w x v
 | .agg xs,v=>∃cs:List Value,v=.agg cs.toArray/\aW (aB j w) xs cs
def aX (j:J) (w:World) (jl:List Nat):V->Value->Prop
 | .any,_=>True
 | .a x,v=>cM j w x v
 | .cV i off,v=>∃b,jl[i]?=some b/\v=.pointer (some ⟨b,off,none⟩)
 | .cS xs,v=>∃cs:List Value,v=.tuple cs.toArray/\aW (cM j w) xs cs
 | .gd c x,v=>(c=true->cM j w x v)/\(c=false->v=.tuple #[])
 | .gr c i off,v=>(c=true->∃b,jl[i]?=some b/\v=.pointer (some ⟨b,off,none⟩))/\(c=false->v=.tuple #[])
 | .oe c k rows,v=>(c=true->aB j w (.slice k none false rows) v/\∃a,v=.slice (some a) rows.length rows.length)/\(c=false->v=.tuple #[])
 | .full k rows,v=>aB j w (.slice k none false rows) v/\∃a,v=.slice (some a) rows.length rows.length
structure Le (j:J) (w:World) (j':J) (w':World):Prop where
 next:j.next<=j'.next
 out:∀id,id<j.next->j'.out id=j.out id
 F:∀b,j.F b<=j'.F b
 data:∀b o,o<j.F b->w'.cell? ⟨b,o,none⟩=w.cell? ⟨b,o,none⟩
 tok:∀t,t<j.next->j'.tok t=j.tok t\/∃k k',j.tok t=some k/\j'.tok t=some k'/\k.m<k'.m
theorem Le.refl (j:J) (w:World):Le j w j w:=⟨Nat.le_refl _,fun _ _=>rfl,fun _=>Nat.le_refl _,fun _ _ _=>rfl,fun _ _=>.inl rfl⟩
theorem Le.trans {j g i:J}{w l m:World}(h:Le j w g l) (h':Le g l i m):Le j w i m:=by
 refine⟨Nat.le_trans h.next h'.next,fun id hi=>(h'.out id (Nat.lt_of_lt_of_le hi h.next)).trans (h.out id hi),fun b=>Nat.le_trans (h.F b) (h'.F b),
  fun b o p=>(h'.data b o (Nat.lt_of_lt_of_le p (h.F b))).trans (h.data b o p),fun t ht=>?_⟩
 rcases h'.tok t (Nat.lt_of_lt_of_le ht h.next) with e|⟨k,k',e,q,aY⟩
 ·rw [e]; exact h.tok t ht
 ·rcases h.tok t ht with f|⟨u,v,f,r,s⟩
  ·exact .inr ⟨k,k',f▸e,q,aY⟩
  ·rw [r] at e;simp only [Option.some.injEq] at e;subst e;exact .inr ⟨_,_,f,q,Nat.lt_trans s aY⟩
theorem ry.mono {j j':J}{w w':World}(hle:Le j w j' w'){tok:Option Nat}{n:Nat}{a:Addr}{cap:Nat}(h:ry j tok n a cap):ry j' tok n a cap:=by
 intro t ht;obtain⟨h1,b⟩:=h t ht;refine⟨Nat.lt_of_lt_of_le h1 hle.next,fun k hk=>?_⟩;rcases hle.tok t h1 with e|⟨g,k',e,f,aY⟩
 ·rw [e] at hk; exact b k hk
 ·rw [f] at hk;simp only [Option.some.injEq] at hk;subst hk;have:=(b _ e).1;exact⟨by omega,fun h=>by omega⟩
theorem uc.mono {j j':J}{w w':World}(hle:Le j w j' w'){id:Nat}{nl:Bool}{len:Nat}{a:Option Addr}{cap:Nat}(hid:id<j.next) (h:uc j id nl len a cap):uc j' id nl len a cap:=by
 intro tk hk;rcases hle.tok id hid with e|⟨f,k',e,b,aY⟩
 ·rw [e] at hk; exact h tk hk
 ·rw [b] at hk;simp only [Option.some.injEq] at hk;subst hk;have:=(h _ e).1;exact⟨by omega,fun h=>by omega⟩
theorem At.mono {j j':J}{w w':World}(hle:Le j w j' w'){a:Addr}{n:Nat}{cv:Nat->Value}(h:At j w a n cv):At j' w' a n cv :=
 ⟨h.1,fun i hi=>⟨Nat.lt_of_lt_of_le (h.2 i hi).1 (hle.F _),(hle.data _ _ (h.2 i hi).1).trans (h.2 i hi).2⟩⟩
theorem pY.mono {j j':J}{w w':World}(hle:Le j w j' w'){a:Addr}{rows:List (List D)}{cv:Nat->Value}(h:pY j w a rows cv):pY j' w' a rows cv :=
 ⟨h.1,fun i hi=>⟨Nat.lt_of_lt_of_le (h.2 i hi).1 (hle.F _),(hle.data _ _ (h.2 i hi).1).trans (h.2 i hi).2⟩⟩
theorem aB.mono {j j':J}{w w':World}(hle:Le j w j' w'){x:D}{v:Value}(h:aB j w x v):aB j' w' x v:=by
 induction h with
 | bool b=>exact .bool b
 | int k n=>exact .int k n
 | str s h=>exact .str s h
 | fB k tok ht=>exact .fB k tok fun t h=>Nat.lt_of_lt_of_le (ht t h) hle.next
 | slice k tok rows a cap cv hk hn hc bH hr ht g=>exact .slice k tok rows a cap cv hk hn hc (bH.mono hle) g (ht.mono hle)
 | arr k id nl len a cap hid hv=>exact .arr k id nl len a cap (Nat.lt_of_lt_of_le hid hle.next) (hv.mono hle hid)
 | eX id m off b hid hv =>
  refine .eX id m off b (Nat.lt_of_lt_of_le hid hle.next) fun tk hk=>?_;rcases hle.tok id hid with e|⟨o,k',e,i,aY⟩
  ·rw [e] at hk; exact hv tk hk
  ·rw [i] at hk;simp only [Option.some.injEq] at hk;subst hk;have:=(hv _ e).1;exact⟨by omega,fun h=>by omega⟩
 | ep=>exact .ep
 | ptr id off h =>
  rw [<- hle.out id h];exact .ptr id off (Nat.lt_of_lt_of_le h hle.next)
 | view cells a cv bH hr g=>exact .view cells a cv (bH.mono hle) g
 | jK=>exact .jK
 | map id b hid hv =>
  refine .map id b (Nat.lt_of_lt_of_le hid hle.next) fun tk hk=>?_;rcases hle.tok id hid with e|⟨o,k',e,i,aY⟩
  ·rw [e] at hk; exact hv tk hk
  ·rw [i] at hk;simp only [Option.some.injEq] at hk;subst hk;have:=(hv _ e).1;exact⟨by omega,fun h=>by omega⟩
 | nilFunc=>exact .nilFunc
 | func f bZ gK hl hr g=>exact .func f bZ gK hl g
 | yield l=>exact .yield l
 | ru t b c=>exact .ru t b c
 | nilIface=>exact .nilIface
 | iface t x v h g=>exact .iface t x v g
theorem cM.mono {j j':J}{w w':World}(hle:Le j w j' w'){x:A}{v:Value}(h:cM j w x v):cM j' w' x v:=by
 cases x with
 | d x=>exact aB.mono hle h
 | agg xs=>obtain⟨cs,e,h⟩:=h; exact⟨cs,e,h.imp fun _ _ h=>h.mono hle⟩
def Ext (jl f:List Nat):Prop:=∀(i b:Nat),jl[i]?=some b->f[i]?=some b
theorem Ext.refl (jl:List Nat):Ext jl jl:=fun _ _ h=>h
theorem aX.mono {j j':J}{w w':World}(hle:Le j w j' w'){jl g:List Nat}(l:Ext jl g){x:V}{v:Value}(h:aX j w jl x v):aX j' w' g x v:=by
 cases x with
 | any=>trivial
 | a x=>exact cM.mono hle h
 | cV i off=>obtain⟨b,f,e⟩:=h; exact⟨b,l i b f,e⟩
 | cS xs=>obtain⟨cs,e,h⟩:=h; exact⟨cs,e,h.imp fun _ _ h=>h.mono hle⟩
 | gd c x=>exact⟨fun hc=>cM.mono hle (h.1 hc),h.2⟩
 | gr c i off=>exact⟨fun hc=>let ⟨b,f,e⟩:=h.1 hc; ⟨b,l i b f,e⟩,h.2⟩
 | full k rows=>exact⟨h.1.mono hle,h.2⟩
 | oe c k rows=>exact⟨fun hc=>⟨(h.1 hc).1.mono hle,(h.1 hc).2⟩,h.2⟩
def bD (j:J) (id:Nat):Obj->Option Nat
 | .tok _ _ _=>(j.tok id).bind fun k=>k.dP.map (·.1)
 | .arr _ _=>(j.tok id).bind fun k=>k.dP.map (·.1)
 | .map _=>(j.tok id).bind fun k=>k.dP.map (·.1)
 | .fix b _=>some b
 | .dS b _=>some b
 | _=>some (j.out id)
def jb (j:J) (w:World) (e:D×A) (m:MapEntry):Prop:=aB j w e.1 m.key/\cM j w e.2 m.val
def kP (b:List MapEntry) (bq:Nat):Prop:=(b.map (·.born)).Nodup/\(∀m∈b,m.born<bq)/\(b.map (·.key)).Nodup
def fq (j:J) (w:World) (id:Nat):Obj->Prop
 | .cells xs=>∃(cs:List Value) (e:TypeId),w.heap[j.out id]?=some (.cells cs.toArray e (0,0))/\aW (aB j w) xs cs/\j.F (j.out id)=0
 | .map es=>∃(b c:Nat) (f:List MapEntry) (bq:Nat),j.tok id=some ⟨some (b,c),1⟩/\w.heap[b]?=some (.map f.toArray bq)/\aW (jb j w) es f/\j.F b=0/\kP f bq
 | .dz T xs=>∃cs:List Value,w.heap[j.out id]?=some (.cells cs.toArray T (0,0))/\aW (aB j w) xs cs/\j.F (j.out id)=0
 | .tok k m E=>∃dP,j.tok id=some ⟨dP,m⟩/\(∀b cap,dP=some (b,cap)->∃(cs:Array Value) (e:TypeId),w.heap[b]?=some (.cells cs e (0,0))/\cs.size=cap*k/\j.F b=m*k/\m<=cap/\∀T,E=some T->e=T)/\(E.isSome=true->dP=none->m=0)
 | .fix b o=>w.heap[b]?=some o
 | .dS b o=>∃c,j.tok id=some ⟨some (b,c),1⟩/\w.heap[b]?=some o/\j.F b=0
 | .arr k rows=>∃dP,j.tok id=some ⟨dP,rows.length⟩/\(dP=none↔rows=[])/\(∀r∈rows,r.length=k)/\rows.length<=cL/\∀b cap,dP=some (b,cap) ->
   ∃(cs:List Value) (e:TypeId),w.heap[b]?=some (.cells cs.toArray e (0,0))/\cs.length=cap*k/\j.F b=0/\rows.length<=cap/\aW (aB j w) rows.flatten (cs.take (rows.length*k))
def Obj.tokd:Obj->Bool
 | .tok _ _ _=>true
 | .arr _ _=>true
 | .map _=>true
 | .fix _ _=>true
 | .dS _ _=>true
 | _=>false
def Own (j:J) (h:ah) (jl:List Nat) (b:Nat):Prop:=b∈jl\/∃id o,h id=some o/\bD j id o=some b
structure dJ (j:J) (w:World) (h:ah):Prop where
 obj:∀id o,h id=some o->id<j.next/\fq j w id o
 inj:∀gL o1 gM o2 b,h gL=some o1->h gM=some o2->bD j gL o1=some b->bD j gM o2=some b->gL=gM
 fresh:∀b,w.heap.size<=b->j.F b=0
def jL (j:J) (w:World) (b:Nat) (xs:List D):Prop:=∃(cs:List Value) (e:TypeId),w.heap[b]?=some (.cells cs.toArray e (0,0))/\aW (aB j w) xs cs/\j.F b=0
structure L7 (j:J) (w:World) (h:ah) (ls:List (List D)) (jl:List Nat):Prop where
 each:aW (fun xs b=>jL j w b xs) ls jl
 nodup:jl.Nodup
 apart:∀b,b∈jl->¬Own j h [] b
class bf where
 ET:Prop
abbrev bf.on:bf:=⟨True⟩
abbrev bf.off:bf:=⟨False⟩
variable {ak:bf}
def fC [bf] (w w':World):Prop:=w'.output=w.output/\(w.drawn<=w'.drawn\/bf.ET)
theorem fC.rfl {w w':World}(h1:w'.output=w.output:=by first|rfl|simp) (b:w.drawn<=w'.drawn:=by first|exact Nat.le_refl _|exact Nat.le_succ _|simp):fC w w':=⟨h1,.inl b⟩
theorem fC.trans {w f g:World}(h':fC f g) (h:fC w f):fC w g:=⟨h'.1.trans h.1,h.2.elim (fun a=>h'.2.elim (fun b=>.inl (Nat.le_trans a b)) .inr) .inr⟩
structure bw [bf] (j:J) (w:World) (O:Nat->Prop) (j':J) (w':World) (O':Nat->Prop):Prop extends Le j w j' w' where
 size:w.heap.size<=w'.heap.size
 frame:∀b,b<w.heap.size->¬O b->w'.heap[b]?=w.heap[b]?/\j'.F b=j.F b
 own:∀b,b<w.heap.size->O' b->O b
 os:w'.os=w.os
 tape:w'.tape=w.tape
 output:fC w w'
theorem bw.refl (j:J) (w:World) (O:Nat->Prop):bw j w O j w O :=
 ⟨Le.refl _ _,Nat.le_refl _,fun _ _ _=>⟨rfl,rfl⟩,fun _ _ h=>h,rfl,rfl,fC.rfl⟩
theorem bw.trans {j i k:J}{w l m:World}{O o O2:Nat->Prop}(h:bw j w O i l o) (h':bw i l o k m O2):bw j w O k m O2:=by
 refine⟨h.toLe.trans h'.toLe,Nat.le_trans h.size h'.size,fun b f g=>?_,fun b f g=>h.own b f (h'.own b (Nat.lt_of_lt_of_le f h.size) g),h'.os.trans h.os,h'.tape.trans h.tape,h'.output.trans h.output⟩;have h1:=h.frame b f g;have p:=h'.frame b (Nat.lt_of_lt_of_le f h.size) (fun q=>g (h.own b f q));exact⟨p.1.trans h1.1,p.2.trans h1.2⟩
theorem bw.drew (j:J) (w:World) (O:Nat->Prop):bw j w O j w.drew O :=
 ⟨⟨Nat.le_refl _,fun _ _=>rfl,fun _=>Nat.le_refl _,fun _ _ _=>rfl,fun _ _=>.inl rfl⟩,Nat.le_refl _,fun _ _ _=>⟨rfl,rfl⟩,fun _ _ h=>h,rfl,rfl,fC.rfl⟩
theorem bw.drop {j j':J}{w w':World}{O O' f:Nat->Prop}(h:bw j w O j' w' O') (g:∀b,f b->O' b):bw j w O j' w' f :=
 { h with own:=fun b i h'=>h.own b i (g b h') }
def V.under (c:Bool):V->V
 | .a x=>.gd c x
 | .cV i off=>.gr c i off
 | .full k rows=>.oe c k rows
 | _=>.any
theorem V.EU {j:J}{w:World}{jl:List Nat}{x:V}{v:Value}(h:aX j w jl x v):aX j w jl (x.under true) v:=by
 cases x with
 | a x=>exact⟨fun _=>h,fun e=>by cases e⟩
 | cV i off=>exact⟨fun _=>h,fun e=>by cases e⟩
 | full k rows=>exact⟨fun _=>h,fun e=>by cases e⟩
 | _=>trivial
theorem V.EV {j:J}{w:World}{jl:List Nat}(x:V):aX j w jl (x.under false) (.tuple #[]):=by
 cases x with
 | a x=>exact⟨(fun e=>by cases e),fun _=>rfl⟩
 | cV i off=>exact⟨(fun e=>by cases e),fun _=>rfl⟩
 | full k rows=>exact⟨(fun e=>by cases e),fun _=>rfl⟩
 | _=>trivial
end Go.Ab
/-
 How the steps of the model change the abstract state: a new block of data,a new object,a new local,a store,an append.
-/
namespace Go.Ab
open Go Go.RowKit
variable {ak:bf}
def HL (j:J) (w:World) (jl:List Nat) (ls:List (List D)) (h:ah):Prop:=dJ j w h/\L7 j w h ls jl
theorem fO {w:World}{b:Nat}{o:Go.Obj}(h:w.heap[b]?=some o):b<w.heap.size:=by
 rcases Nat.lt_or_ge b w.heap.size with h'|h'
 ·exact h'
 ·rw [Array.getElem?_eq_none h'] at h; simp at h
theorem fq.L8 {j:J}{w:World}{id:Nat}{o:Obj}(h:fq j w id o){b:Nat}(f:bD j id o=some b):b<w.heap.size:=by
 cases o with
 | cells xs=>obtain⟨cs,e,hh,_⟩:=h; simp only [bD,Option.some.injEq] at f; subst f; exact fO hh
 | dz T xs=>obtain⟨cs,hh,_⟩:=h; simp only [bD,Option.some.injEq] at f; subst f; exact fO hh
 | fix g o=>simp only [bD,Option.some.injEq] at f; subst f; exact fO h
 | dS g o=>obtain⟨c,_,hh,_⟩:=h; simp only [bD,Option.some.injEq] at f; subst f; exact fO hh
 | map es =>
  obtain⟨g,c,l,bq,ht,hh,_⟩:=h;simp only [bD,ht,Option.bind_some,Option.map_some,Option.some.injEq] at f;subst f; exact fO hh
 | tok k m E =>
  obtain⟨dP,ht,hh,_⟩:=h;simp only [bD,ht,Option.bind_some] at f;cases dP with
  | none=>simp at f
  | some i =>
   obtain⟨g,cap⟩:=i;simp only [Option.map_some,Option.some.injEq] at f;subst f;obtain⟨cs,e,hh,_⟩:=hh _ _ rfl;exact fO hh
 | arr k rows =>
  obtain⟨dP,ht,_,_,_,hh⟩:=h;simp only [bD,ht,Option.bind_some] at f;cases dP with
  | none=>simp at f
  | some i =>
   obtain⟨g,cap⟩:=i;simp only [Option.map_some,Option.some.injEq] at f;subst f;obtain⟨cs,e,hh,_⟩:=hh _ _ rfl;exact fO hh
theorem Own.lt {j:J}{w:World}{jl:List Nat}{ls:List (List D)}{h:ah}(hl:HL j w jl ls h){b:Nat}(f:Own j h jl b):b<w.heap.size:=by
 rcases f with hm|⟨id,o,hi,g⟩
 ·obtain⟨i,hi⟩:=List.getElem?_of_mem hm;obtain⟨xs,_,cs,e,hh,_⟩:=hl.2.each.get' hi;exact fO hh
 ·exact(hl.1.obj id o hi).2.L8 g
theorem jb.mono {j j':J}{w w':World}(hle:Le j w j' w'){e:D×A}{m:MapEntry}(h:jb j w e m):jb j' w' e m:=⟨h.1.mono hle,h.2.mono hle⟩
theorem fq.keep {j j':J}{w w':World}(hle:Le j w j' w'){id:Nat}{o:Obj}(hid:id<j.next) (h:fq j w id o)
  (l:∀b,bD j id o=some b->w'.heap[b]?=w.heap[b]?/\j'.F b=j.F b) (ht:o.tokd=true->j'.tok id=j.tok id):fq j' w' id o/\bD j' id o=bD j id o:=by
 cases o with
 | cells xs =>
  obtain⟨cs,e,hh,r,p⟩:=h;obtain⟨f,g⟩:=l _ rfl;have q:=hle.out id hid;exact⟨⟨cs,e,by rw [q,f]; exact hh,r.imp fun _ _ h=>h.mono hle,by rw [q,g]; exact p⟩,by simp [bD,q]⟩
 | dz T xs =>
  obtain⟨cs,hh,r,p⟩:=h;obtain⟨f,g⟩:=l _ rfl;have q:=hle.out id hid;exact⟨⟨cs,by rw [q,f]; exact hh,r.imp fun _ _ h=>h.mono hle,by rw [q,g]; exact p⟩,by simp [bD,q]⟩
 | fix b o =>
  obtain⟨f,_⟩:=l b rfl;exact⟨f.trans h,rfl⟩
 | dS b o =>
  obtain⟨c,t,hh,p⟩:=h;have i:=ht rfl;obtain⟨f,g⟩:=l b rfl;exact⟨⟨c,by rw [i]; exact t,f.trans hh,by rw [g]; exact p⟩,rfl⟩
 | map es =>
  obtain⟨b,c,z,bq,t,hh,r,p,hB⟩:=h;have i:=ht rfl;obtain⟨f,g⟩:=l b (by simp [bD,t]);exact⟨⟨b,c,z,bq,by rw [i]; exact t,by rw [f]; exact hh,r.imp fun _ _ h=>h.mono hle,by rw [g]; exact p,hB⟩,by simp [bD,i]⟩
 | tok k m E =>
  obtain⟨dP,e,hh,B⟩:=h;have i:=ht rfl;refine⟨⟨dP,by rw [i]; exact e,fun b cap s=>?_,B⟩,by simp [bD,i]⟩;obtain⟨cs,ty,h1,u,v,x,y⟩:=hh b cap s;obtain⟨f,g⟩:=l b (by simp [bD,e,s]);exact⟨cs,ty,by rw [f]; exact h1,u,by rw [g]; exact v,x,y⟩
 | arr k rows =>
  obtain⟨dP,e,g2,g3,g4,hh⟩:=h;have i:=ht rfl;refine⟨⟨dP,by rw [i]; exact e,g2,g3,g4,fun b cap s=>?_⟩,by simp [bD,i]⟩;obtain⟨cs,ty,h1,u,v,x,y⟩:=hh b cap s;obtain⟨f,g⟩:=l b (by simp [bD,e,s]);exact⟨cs,ty,by rw [f]; exact h1,u,by rw [g]; exact v,x,y.imp fun _ _ h=>h.mono hle⟩
theorem jL.keep {j j':J}{w w':World}(hle:Le j w j' w'){b:Nat}{xs:List D}(h:jL j w b xs) (f:w'.heap[b]?=w.heap[b]?/\j'.F b=j.F b):jL j' w' b xs:=by
 obtain⟨cs,e,hh,g,i⟩:=h;exact⟨cs,e,by rw [f.1]; exact hh,g.imp fun _ _ h=>h.mono hle,by rw [f.2]; exact i⟩
theorem og {α β:Type}{R S:α->β->Prop}{l:List α}{m:List β}(hl:aW R l m) (h:∀a b,b∈m->R a b->S a b):aW S l m:=by
 induction hl with
 | nil=>exact .nil
 | cons x _ f=>exact .cons (h _ _ (by simp) x) (f fun a b g=>h a b (by simp [g]))
theorem HL.keep {j j':J}{w w':World}{jl:List Nat}{ls:List (List D)}{h:ah}(hl:HL j w jl ls h) (hle:Le j w j' w')
  (f:∀b,Own j h jl b->w'.heap[b]?=w.heap[b]?/\j'.F b=j.F b) (ht:∀id,id<j.next->(∃o,h id=some o/\o.tokd=true)->j'.tok id=j.tok id)
  (k:∀b,w'.heap.size<=b->j'.F b=0):HL j' w' jl ls h/\∀b,Own j' h jl b↔Own j h jl b:=by
 have key:∀id o,h id=some o->fq j' w' id o/\bD j' id o=bD j id o:=fun id o hi =>
  (hl.1.obj id o hi).2.keep hle (hl.1.obj id o hi).1 (fun b e=>f b (.inr ⟨id,o,hi,e⟩)) (fun e=>ht id (hl.1.obj id o hi).1 ⟨o,hi,e⟩)
 have g:∀jl b,Own j' h jl b↔Own j h jl b:=by
  intro jl b;constructor
  ·rintro (hm|⟨id,o,hi,e⟩)
   ·exact .inl hm
   ·exact .inr ⟨id,o,hi,(key id o hi).2▸e⟩
  ·rintro (hm|⟨id,o,hi,e⟩)
   ·exact .inl hm
   ·exact .inr ⟨id,o,hi,(key id o hi).2.symm▸e⟩
 refine⟨⟨⟨fun id o hi=>⟨Nat.lt_of_lt_of_le (hl.1.obj id o hi).1 hle.next,(key id o hi).1⟩,fun gL o1 gM o2 b h1 i l m=>?_,k⟩,
  ⟨og hl.2.each fun xs b hm h=>h.keep hle (f b (.inl hm)),hl.2.nodup,fun b hm p=>hl.2.apart b hm ((g [] b).1 p)⟩⟩,g jl⟩
 exact hl.1.inj gL o1 gM o2 b h1 i ((key gL o1 h1).2▸l) ((key gM o2 i).2▸m)
theorem HL.drew {j:J}{w:World}{jl:List Nat}{ls:List (List D)}{h:ah}(hl:HL j w jl ls h):HL j w.drew jl ls h :=
 (hl.keep (@bw.toLe bf.off _ _ _ _ _ _ (@bw.drew bf.off j w (Own j h jl))) (fun _ _=>⟨rfl,rfl⟩) (fun _ _ _=>rfl) hl.1.fresh).1
theorem pZ {w:World}{o:Go.Obj}{b:Nat}(h:b<w.heap.size):(w.alloc o).heap[b]?=w.heap[b]?:=by
 show (w.heap.push o)[b]?=_;rw [Array.getElem?_push,if_neg (by omega)]
def J.er (j:J) (b n:Nat):J:={ j with F:=fun x=>if x=b then n else j.F x }
theorem Le.alloc {j:J}{w:World}{o:Go.Obj}(f:∀b,w.heap.size<=b->j.F b=0) (n:Nat):Le j w (j.er w.heap.size n) (w.alloc o):=by
 refine⟨Nat.le_refl _,fun _ _=>rfl,fun b=>?_,fun b o' g=>?_,fun _ _=>.inl rfl⟩
 ·simp only [J.er]
  split
  ·rename_i e; rw [f b (by omega)]; exact Nat.zero_le _
  ·exact Nat.le_refl _
 ·have i:b<w.heap.size:=by
   rcases Nat.lt_or_ge b w.heap.size with h|h
   ·exact h
   ·rw [f b h] at g; omega
  exact World.cell?_alloc_lt w _ _ i
theorem HL.data {j:J}{w:World}{jl:List Nat}{ls:List (List D)}{h:ah}(hl:HL j w jl ls h) (o:Go.Obj) (n:Nat) :
  HL (j.er w.heap.size n) (w.alloc o) jl ls h/\bw j w (Own j h jl) (j.er w.heap.size n) (w.alloc o) (Own (j.er w.heap.size n) h jl):=by
 have hle:=Le.alloc (o:=o) hl.1.fresh n;have h1:∀b,b<w.heap.size->(w.alloc o).heap[b]?=w.heap[b]?/\(j.er w.heap.size n).F b=j.F b:=fun b f =>
  ⟨pZ f,by simp only [J.er]; rw [if_neg (by omega)]⟩
 have hk:=hl.keep hle (fun b g=>h1 b (g.lt hl)) (fun _ _ _=>rfl) (fun b f=>by
  simp only [World.size_alloc] at f;simp only [J.er]; rw [if_neg (by omega)]; exact hl.1.fresh b (by omega))
 exact⟨hk.1,{ toLe:=hle,size:=by simp,frame:=fun b f _=>h1 b f,own:=fun b _ g=>(hk.2 b).1 g,os:=rfl,tape:=rfl,output:=fC.rfl }⟩
theorem J.ud {j:J}{b:Nat}(h:j.F b=0):j.er b 0=j:=by
 unfold J.er;have:(fun x=>if x=b then 0 else j.F x)=j.F:=by
  funext x; split
  ·rename_i e; rw [e,h]
  ·rfl
 rw [this]
theorem HL.loc {j:J}{w:World}{jl:List Nat}{ls:List (List D)}{h:ah}(hl:HL j w jl ls h) (cs:List Value) (e:TypeId) (xs:List D) (l:aW (aB j w) xs cs) :
  HL j (w.alloc (.cells cs.toArray e)) (jl++[w.heap.size]) (ls++[xs]) h/\bw j w (Own j h jl) j (w.alloc (.cells cs.toArray e)) (Own j h (jl++[w.heap.size])):=by
 have i:=hl.data (ak:=ak) (.cells cs.toArray e) 0;rw [J.ud (hl.1.fresh _ (Nat.le_refl _))] at i;obtain⟨hk,k⟩:=i;have m:∀b,b∈jl->b<w.heap.size:=fun b g=>(Own.lt hl (.inl g));refine⟨⟨hk.1,⟨hk.2.each.append (.cons ⟨cs,e,heap_alloc_new w _,l.imp fun _ _ h=>h.mono k.toLe,hl.1.fresh _ (Nat.le_refl _)⟩ .nil), ?_,fun b g f=>?_⟩⟩, ?_⟩
 ·rw [List.nodup_append];refine⟨hk.2.nodup,by simp,fun a p b g=>?_⟩;simp at g; subst g;have:=m a p; omega
 ·rcases List.mem_append.1 g with g|g
  ·exact hk.2.apart b g f
  ·simp at g; subst g;have:w.heap.size<w.heap.size:=by
    rcases f with f|⟨id,o,hi,e⟩
    ·simp at f
    ·exact Own.lt hl (.inr ⟨id,o,hi,e⟩)
   omega
 ·refine { k with own:=fun b g f=>?_ };rcases f with f|f
  ·rcases List.mem_append.1 f with f|f
   ·exact .inl f
   ·simp at f; omega
  ·exact .inr f
def J.obj (j:J) (b:Nat):J:={ j with out:=fun x=>if x=j.next then b else j.out x,next:=j.next+1 }
theorem ah.bX (h:ah) (i:Nat) (o:Option Obj):h.set i o i=o:=by simp [ah.set]
theorem ah.bP (h:ah){i n:Nat}(o:Option Obj) (hn:n≠i):h.set i o n=h n:=by simp [ah.set,hn]
theorem ah.set_set (h:ah) (i:Nat) (o o':Option Obj):(h.set i o).set i o'=h.set i o':=by
 funext n; simp only [ah.set]; split<;>rfl
theorem ah.oh (h:ah) (i:Nat) (o:Option Obj) (hi:h i=o):h.set i o=h:=by
 funext n; simp only [ah.set]; split
 ·rename_i e; rw [e,hi]
 ·rfl
theorem dJ.kQ {j:J}{w:World}{h:ah}(hr:dJ j w h){id:Nat}(hi:j.next<=id):h id=none:=by
 cases e:h id with
 | none=>rfl
 | some o=>have:=(hr.obj id o e).1; omega
theorem HL.obj {j:J}{w:World}{jl:List Nat}{ls:List (List D)}{h:ah}(hl:HL j w jl ls h) (go:Go.Obj) (o:Obj) (l:o.tokd=false)
  (u:fq (j.obj w.heap.size) (w.alloc go) j.next o) :
  HL (j.obj w.heap.size) (w.alloc go) jl ls (h.set j.next (some o)) /\
   bw j w (Own j h jl) (j.obj w.heap.size) (w.alloc go) (Own (j.obj w.heap.size) (h.set j.next (some o)) jl):=by
 have s:=hl.data (ak:=ak) go 0;rw [J.ud (hl.1.fresh _ (Nat.le_refl _))] at s;obtain⟨hk,t⟩:=s;have hle:Le j (w.alloc go) (j.obj w.heap.size) (w.alloc go) :=
  ⟨by simp [J.obj],fun id hi=>by simp only [J.obj]; rw [if_neg (by omega)],fun _=>Nat.le_refl _,fun _ _ _=>rfl,fun _ _=>.inl rfl⟩
 have f:=hk.keep hle (fun _ _=>⟨rfl,rfl⟩) (fun _ _ _=>rfl) hk.1.fresh;have hblk:bD (j.obj w.heap.size) j.next o=some w.heap.size:=by
  cases o with
  | tok k m E=>simp [Obj.tokd] at l
  | arr k rows=>simp [Obj.tokd] at l
  | cells xs=>simp [bD,J.obj]
  | dz T xs=>simp [bD,J.obj]
  | map es=>simp [Obj.tokd] at l
  | dS b o=>simp [Obj.tokd] at l
  | fix b o=>simp [Obj.tokd] at l
 have hold:∀id o',h id=some o'->id≠j.next:=fun id o' hi e=>by
  rw [e,hl.1.kQ (Nat.le_refl _)] at hi; simp at hi
 have aY:∀id o' b,h id=some o'->bD (j.obj w.heap.size) id o'=some b->b<w.heap.size:=fun id o' b hi e =>
  Own.lt hl ((f.2 b).1 (.inr ⟨id,o',hi,e⟩))
 refine⟨⟨⟨fun id o' hi=>?_,fun gL o1 gM o2 b h1 g q r=>?_,hk.1.fresh⟩,⟨f.1.2.each,f.1.2.nodup,fun b p i=>?_⟩⟩, ?_⟩
 ·by_cases e:id=j.next
  ·subst e; rw [ah.bX] at hi; simp only [Option.some.injEq] at hi; subst hi;exact⟨by simp [J.obj],u⟩
  ·rw [ah.bP h _ e] at hi; exact f.1.1.obj id o' hi
 ·by_cases c1:gL=j.next<;>by_cases c2:gM=j.next
  ·omega
  ·subst c1; rw [ah.bX] at h1; simp only [Option.some.injEq] at h1; subst h1;rw [ah.bP h _ c2] at g;rw [hblk] at q; simp only [Option.some.injEq] at q;have:=aY gM o2 b g r; omega
  ·subst c2; rw [ah.bX] at g; simp only [Option.some.injEq] at g; subst g;rw [ah.bP h _ c1] at h1;rw [hblk] at r; simp only [Option.some.injEq] at r;have:=aY gL o1 b h1 q; omega
  ·rw [ah.bP h _ c1] at h1; rw [ah.bP h _ c2] at g;exact f.1.1.inj gL o1 gM o2 b h1 g q r
 ·rcases i with i|⟨id,o',hi,e⟩
  ·simp at i
  ·by_cases c:id=j.next
   ·subst c; rw [ah.bX] at hi; simp only [Option.some.injEq] at hi; subst hi;rw [hblk] at e; simp only [Option.some.injEq] at e;have:=Own.lt hl (.inl p); omega
   ·rw [ah.bP h _ c] at hi;exact f.1.2.apart b p (.inr ⟨id,o',hi,e⟩)
 ·refine { toLe:=t.toLe.trans hle,size:=by simp,frame:=fun b p hn=>t.frame b p hn,own:=fun b p i=>?_,os:=rfl,tape:=rfl,output:=fC.rfl };rcases i with i|⟨id,o',hi,e⟩
  ·exact .inl i
  ·by_cases c:id=j.next
   ·subst c; rw [ah.bX] at hi; simp only [Option.some.injEq] at hi; subst hi;rw [hblk] at e; simp only [Option.some.injEq] at e; omega
   ·rw [ah.bP h _ c] at hi;exact(f.2 b).1 (.inr ⟨id,o',hi,e⟩)
end Go.Ab
/-
 Stores: into a local,into an object; slices that grow.
-/
namespace Go.Ab
open Go Go.RowKit
variable {ak:bf}
structure eY [bf] (w w':World) (b:Nat) (o:Go.Obj):Prop where
 size:w'.heap.size=w.heap.size
 here:w'.heap[b]?=some o
 other:∀x,x≠b->w'.heap[x]?=w.heap[x]?
 os:w'.os=w.os
 tape:w'.tape=w.tape
 output:fC w w'
theorem p7 {w w':World}{b o:Nat}(h:w'.heap[b]?=w.heap[b]?):w'.cell? ⟨b,o,none⟩=w.cell? ⟨b,o,none⟩:=by simp [World.cell?,h]
theorem eY.le {j:J}{w w':World}{b:Nat}{o:Go.Obj}(hu:eY w w' b o) (f:j.F b=0):Le j w j w' :=
 ⟨Nat.le_refl _,fun _ _=>rfl,fun _=>Nat.le_refl _,fun x i hi=>p7 (hu.other x fun e=>by rw [e,f] at hi; omega),fun _ _=>.inl rfl⟩
theorem L9 {α β:Type}{R S:α->β->Prop}{l:List α}{m:List β}(hl:aW R l m) (o:m.Nodup){i:Nat}{y:β}(j:m[i]?=some y) (x:α) (p:S x y)
  (h:∀a b,b∈m->b≠y->R a b->S a b):aW S (l.set i x) m:=by
 refine aW.kO (by simp [hl.length]) fun n a b f g=>?_;by_cases e:i=n
 ·subst e;rw [j] at g; simp only [Option.some.injEq] at g; subst g;rw [List.getElem?_set] at f;simp only [if_true] at f
  split at f
  ·simp only [Option.some.injEq] at f; subst f; exact p
  ·simp at f
 ·rw [List.getElem?_set,if_neg e] at f;obtain⟨r,k,hr⟩:=hl.get f;rw [g] at k; simp only [Option.some.injEq] at k; subst k;refine h _ _ (List.mem_of_getElem? g) (fun q=>?_) hr;subst q;exact e ((List.getElem?_inj (List.getElem?_eq_some_iff.1 j).1 o).1 (j.trans g.symm))
theorem HL.L_ {j:J}{w w':World}{jl:List Nat}{ls:List (List D)}{h:ah}(hl:HL j w jl ls h){i b:Nat}(k:jl[i]?=some b) (l:j.F b=0)
  {cs:List Value}{e:TypeId}(hu:eY w w' b (.cells cs.toArray e (0,0))){xs:List D}(f:aW (aB j w) xs cs) :
  HL j w' jl (ls.set i xs) h/\bw j w (Own j h jl) j w' (Own j h jl):=by
 have hle:=hu.le (j:=j) l;have m:b∈jl:=List.mem_of_getElem? k;have o:∀x,Own j h [] x->x≠b:=fun x g e=>hl.2.apart b m (e▸g);have hr:dJ j w' h/\∀x,Own j h [] x↔Own j h [] x:=by
  have h0:HL j w [] [] h:=⟨hl.1,⟨.nil,by simp,by simp⟩⟩;have:=h0.keep hle (fun x g=>⟨hu.other x (o x g),rfl⟩) (fun _ _ _=>rfl) (fun x f=>hl.1.fresh x (by rw [hu.size] at f; exact f));exact⟨this.1.1,fun _=>Iff.rfl⟩
 refine⟨⟨hr.1,⟨L9 hl.2.each hl.2.nodup k xs ⟨cs,e,hu.here,f.imp fun _ _ h=>h.mono hle,l⟩ fun a y _ p h=>h.keep hle ⟨hu.other y p,rfl⟩,hl.2.nodup,hl.2.apart⟩⟩,
  { toLe:=hle,size:=by rw [hu.size]; exact Nat.le_refl _,frame:=fun x _ hn=>⟨hu.other x fun e=>hn (e▸.inl m),rfl⟩,own:=fun _ _ h=>h,os:=hu.os,tape:=hu.tape,output:=hu.output }⟩
theorem HL.setObj {j:J}{w w':World}{jl:List Nat}{ls:List (List D)}{h:ah}(hl:HL j w jl ls h){id:Nat}{o o':Obj}{go:Go.Obj}{B:Nat}(hi:h id=some o)
  (g:bD j id o=some B) (i:bD j id o'=some B) (s:j.F B=0)
  (hu:eY w w' B go) (k:fq j w' id o') :
  HL j w' jl ls (h.set id (some o'))/\bw j w (Own j h jl) j w' (Own j (h.set id (some o')) jl):=by
 have hle:=hu.le (j:=j) s;have l:∀jl x,Own j (h.set id (some o')) jl x↔Own j h jl x:=by
  intro jl x;constructor
  ·rintro (hm|⟨n,q,hn,e⟩)
   ·exact .inl hm
   ·by_cases c:n=id
    ·subst c; rw [ah.bX] at hn; simp only [Option.some.injEq] at hn; subst hn;rw [i] at e; exact .inr ⟨_,o,hi,by rw [g]; exact e⟩
    ·rw [ah.bP h _ c] at hn; exact .inr ⟨n,q,hn,e⟩
  ·rintro (hm|⟨n,q,hn,e⟩)
   ·exact .inl hm
   ·by_cases c:n=id
    ·subst c; rw [hi] at hn; simp only [Option.some.injEq] at hn; subst hn;rw [g] at e; exact .inr ⟨_,o',ah.bX _ _ _,by rw [i]; exact e⟩
    ·exact .inr ⟨n,q,by rw [ah.bP h _ c]; exact hn,e⟩
 have t:∀n q x,h n=some q->n≠id->bD j n q=some x->x≠B:=fun n q x hn u e c =>
  u (hl.1.inj n q id o x hn hi e (c▸g))
 have v:∀x,x∈jl->x≠B:=fun x b c=>hl.2.apart x b (.inr ⟨id,o,hi,c▸g⟩);refine⟨⟨⟨fun n q hn=>?_,fun m y p z x h1 C E G=>?_,fun x b=>hl.1.fresh x (by rw [hu.size] at b; exact b)⟩,
  ⟨og hl.2.each fun xs x b h=>h.keep hle ⟨hu.other x (v x b),rfl⟩,hl.2.nodup,fun x b k=>hl.2.apart x b ((l [] x).1 k)⟩⟩, ?_⟩
 ·by_cases c:n=id
  ·subst c; rw [ah.bX] at hn; simp only [Option.some.injEq] at hn; subst hn;exact⟨(hl.1.obj _ o hi).1,k⟩
  ·rw [ah.bP h _ c] at hn;have:=hl.1.obj n q hn;exact⟨this.1,(this.2.keep hle this.1 (fun x e=>⟨hu.other x (t n q x hn c e),rfl⟩) (fun _=>rfl)).1⟩
 ·have f:∀n q,(h.set id (some o')) n=some q->∃r,h n=some r/\∀x,bD j n q=some x->bD j n r=some x:=by
   intro n q hn;by_cases c:n=id
   ·subst c; rw [ah.bX] at hn; simp only [Option.some.injEq] at hn; subst hn;exact⟨o,hi,fun x e=>by rw [i] at e; rw [g]; exact e⟩
   ·rw [ah.bP h _ c] at hn; exact⟨q,hn,fun _ e=>e⟩
  obtain⟨H,g1,f1⟩:=f m y h1;obtain⟨I,g2,f2⟩:=f p z C;exact hl.1.inj m H p I x g1 g2 (f1 x E) (f2 x G)
 ·exact { toLe:=hle,size:=(by rw [hu.size]; exact Nat.le_refl _),frame:=(fun x _ hn=>⟨hu.other x (fun c=>hn (.inr ⟨id,o,hi,c▸g⟩)),rfl⟩),own:=(fun x _ h=>(l jl x).1 h),os:=hu.os,tape:=hu.tape,output:=hu.output }
theorem HL.forget {j:J}{w:World}{jl:List Nat}{ls:List (List D)}{h h':ah}(hl:HL j w jl ls h) (b:∀id o,h' id=some o->h id=some o) :
  HL j w jl ls h'/\bw j w (Own j h jl) j w (Own j h' jl):=by
 have f:∀jl x,Own j h' jl x->Own j h jl x:=by
  rintro jl x (hm|⟨n,q,hn,e⟩)
  ·exact .inl hm
  ·exact .inr ⟨n,q,b n q hn,e⟩
 exact⟨⟨⟨fun id o hi=>hl.1.obj id o (b id o hi),fun g i k l x h1 m p r=>hl.1.inj g i k l x (b _ _ h1) (b _ _ m) p r,hl.1.fresh⟩,
  ⟨hl.2.each,hl.2.nodup,fun x s t=>hl.2.apart x s (f [] x t)⟩⟩,(bw.refl j w _).drop (f jl)⟩
theorem HL.trim {j:J}{w:World}{jl:List Nat}{ls:List (List D)}{h:ah}(hl:HL j w jl ls h) (n:Nat) :
  HL j w (jl.take n) (ls.take n) h/\bw j w (Own j h jl) j w (Own j h (jl.take n)) :=
 ⟨⟨hl.1,⟨hl.2.each.take n,hl.2.nodup.sublist (List.take_sublist n jl),fun b f=>hl.2.apart b (List.mem_of_mem_take f)⟩⟩,
  (bw.refl j w _).drop fun _ g=>g.elim (fun x=>.inl (List.mem_of_mem_take x)) .inr⟩
def J.dQ (j:J):J:={ j with tok:=fun x=>if x=j.next then some ⟨none,0⟩ else j.tok x,next:=j.next+1 }
theorem HL.dQ {j:J}{w:World}{jl:List Nat}{ls:List (List D)}{h:ah}(hl:HL j w jl ls h) (k:Nat) (E:Option TypeId:=none) :
  HL j.dQ w jl ls (h.set j.next (some (.tok k 0 E)))/\bw j w (Own j h jl) j.dQ w (Own j.dQ (h.set j.next (some (.tok k 0 E))) jl):=by
 have hle:Le j w j.dQ w:=⟨by simp [J.dQ],fun _ _=>rfl,fun _=>Nat.le_refl _,fun _ _ _=>rfl,fun t ht=>.inl (by simp only [J.dQ]; rw [if_neg (by omega)])⟩;have hk:=hl.keep hle (fun _ _=>⟨rfl,rfl⟩) (fun id hid _=>by simp only [J.dQ]; rw [if_neg (by omega)]) hl.1.fresh;have g:∀b,bD j.dQ j.next (.tok k 0 E)≠some b:=by intro b; simp [bD,J.dQ]
 have l:∀jl x,Own j.dQ (h.set j.next (some (.tok k 0 E))) jl x->Own j.dQ h jl x:=by
  rintro jl x (hm|⟨n,q,hn,e⟩)
  ·exact .inl hm
  ·by_cases c:n=j.next
   ·subst c; rw [ah.bX] at hn; simp only [Option.some.injEq] at hn; subst hn;exact absurd e (g x)
   ·rw [ah.bP h _ c] at hn; exact .inr ⟨n,q,hn,e⟩
 refine⟨⟨⟨fun id o hi=>?_,fun m u p v x h1 f r s=>?_,hl.1.fresh⟩,⟨hk.1.2.each,hk.1.2.nodup,fun x y i=>hk.1.2.apart x y (l [] x i)⟩⟩,
  { (bw.refl j w (Own j h jl)) with toLe:=hle,frame:=fun _ _ _=>⟨rfl,rfl⟩,own:=fun b _ i=>(hk.2 b).1 (l jl b i) }⟩
 ·by_cases c:id=j.next
  ·subst c; rw [ah.bX] at hi; simp only [Option.some.injEq] at hi; subst hi;exact⟨by simp [J.dQ],none,by simp [J.dQ],(by intro _ _ h; cases h),fun _ _=>rfl⟩
  ·rw [ah.bP h _ c] at hi; exact hk.1.1.obj id o hi
 ·by_cases c1:m=j.next
  ·subst c1; rw [ah.bX] at h1; simp only [Option.some.injEq] at h1; subst h1;exact absurd r (g x)
  ·by_cases c2:p=j.next
   ·subst c2; rw [ah.bX] at f; simp only [Option.some.injEq] at f; subst f;exact absurd s (g x)
   ·rw [ah.bP h _ c1] at h1; rw [ah.bP h _ c2] at f;exact hk.1.1.inj m u p v x h1 f r s
def J.cr (j:J) (t:Nat) (k:Tk) (b n:Nat):J:={ j with tok:=fun x=>if x=t then some k else j.tok x,F:=fun x=>if x=b then n else j.F x }
def J.gz (j:J) (m:Nat):J:={ j with tok:=fun x=>if x=j.next then some ⟨none,m⟩ else j.tok x,next:=j.next+1 }
theorem HL.gz {j:J}{w:World}{jl:List Nat}{ls:List (List D)}{h:ah}(hl:HL j w jl ls h) (k m:Nat) :
  HL (j.gz m) w jl ls (h.set j.next (some (.tok k m)))/\bw j w (Own j h jl) (j.gz m) w (Own (j.gz m) (h.set j.next (some (.tok k m))) jl):=by
 have hle:Le j w (j.gz m) w:=⟨by simp [J.gz],fun _ _=>rfl,fun _=>Nat.le_refl _,fun _ _ _=>rfl,fun t ht=>.inl (by simp only [J.gz]; rw [if_neg (by omega)])⟩;have hk:=hl.keep hle (fun _ _=>⟨rfl,rfl⟩) (fun id hid _=>by simp only [J.gz]; rw [if_neg (by omega)]) hl.1.fresh;have g:∀b,bD (j.gz m) j.next (.tok k m)≠some b:=by intro b; simp [bD,J.gz]
 have l:∀jl x,Own (j.gz m) (h.set j.next (some (.tok k m))) jl x->Own (j.gz m) h jl x:=by
  rintro jl x (hm|⟨n,q,hn,e⟩)
  ·exact .inl hm
  ·by_cases c:n=j.next
   ·subst c; rw [ah.bX] at hn; simp only [Option.some.injEq] at hn; subst hn;exact absurd e (g x)
   ·rw [ah.bP h _ c] at hn; exact .inr ⟨n,q,hn,e⟩
 refine⟨⟨⟨fun id o hi=>?_,fun p v r y x h1 f s u=>?_,hl.1.fresh⟩,⟨hk.1.2.each,hk.1.2.nodup,fun x z i=>hk.1.2.apart x z (l [] x i)⟩⟩,
  { (bw.refl j w (Own j h jl)) with toLe:=hle,frame:=fun _ _ _=>⟨rfl,rfl⟩,own:=fun b _ i=>(hk.2 b).1 (l jl b i) }⟩
 ·by_cases c:id=j.next
  ·subst c; rw [ah.bX] at hi; simp only [Option.some.injEq] at hi; subst hi;exact⟨by simp [J.gz],none,by simp [J.gz],(by intro _ _ h; cases h),fun h=>by cases h⟩
  ·rw [ah.bP h _ c] at hi; exact hk.1.1.obj id o hi
 ·by_cases c1:p=j.next
  ·subst c1; rw [ah.bX] at h1; simp only [Option.some.injEq] at h1; subst h1;exact absurd s (g x)
  ·by_cases c2:r=j.next
   ·subst c2; rw [ah.bX] at f; simp only [Option.some.injEq] at f; subst f;exact absurd u (g x)
   ·rw [ah.bP h _ c1] at h1; rw [ah.bP h _ c2] at f;exact hk.1.1.inj p v r y x h1 f s u
theorem HL.grow {j:J}{w w':World}{jl:List Nat}{ls:List (List D)}{h:ah}(hl:HL j w jl ls h){t k m m':Nat}{E:Option TypeId}(ht:h t=some (.tok k m E)) (hm:m<m')
  {b cap:Nat}{cs:Array Value}{e:TypeId}(L:w'.heap[b]?=some (.cells cs e (0,0))) (P:cs.size=cap*k) (Q:m'<=cap)
  (z:∀x,x≠b->x<w.heap.size->w'.heap[x]?=w.heap[x]?) (R:w.heap.size<=w'.heap.size) (af:w'.heap.size<=max w.heap.size (b+1))
  (p:w.heap.size<=b\/(bD j t (.tok k m E)=some b/\∀o,o<j.F b->w'.cell? ⟨b,o,none⟩=w.cell? ⟨b,o,none⟩))
  (S:w'.os=w.os) (U:w'.tape=w.tape) (W:fC w w') (X:∀T,E=some T->e=T:=by intro T h; cases h) :
  HL (j.cr t ⟨some (b,cap),m'⟩ b (m'*k)) w' jl ls (h.set t (some (.tok k m' E))) /\
   bw j w (Own j h jl) (j.cr t ⟨some (b,cap),m'⟩ b (m'*k)) w' (Own (j.cr t ⟨some (b,cap),m'⟩ b (m'*k)) (h.set t (some (.tok k m' E))) jl):=by
 obtain⟨Y,dP,M,hblk,_⟩:=hl.1.obj t _ ht;have Z:j.F b<=m'*k:=by
  rcases p with hc|⟨hc,_⟩
  ·rw [hl.1.fresh b hc]; exact Nat.zero_le _
  ·simp only [bD,M,Option.bind_some] at hc;cases dP with
   | none=>simp at hc
   | some aa =>
    obtain⟨ab,ad⟩:=aa;simp only [Option.map_some,Option.some.injEq] at hc;subst hc;obtain⟨_,_,_,_,ae,_⟩:=hblk _ _ rfl;rw [ae]; exact Nat.mul_le_mul_right _ (Nat.le_of_lt hm)
 have hle:Le j w (j.cr t ⟨some (b,cap),m'⟩ b (m'*k)) w':=by
  refine⟨Nat.le_refl _,fun _ _=>rfl,fun x=>?_,fun x o l=>?_,fun x f=>?_⟩
  ·simp only [J.cr]; split
   ·rename_i c; rw [c]; exact Z
   ·exact Nat.le_refl _
  ·by_cases c:x=b
   ·subst c;rcases p with hc|⟨_,hc⟩
    ·rw [hl.1.fresh x hc] at l; omega
    ·exact hc o l
   ·refine p7 (z x c ?_);rcases Nat.lt_or_ge x w.heap.size with h1|h1
    ·exact h1
    ·rw [hl.1.fresh x h1] at l; omega
  ·by_cases c:x=t
   ·subst c; exact .inr ⟨_,⟨some (b,cap),m'⟩,M,by simp [J.cr],hm⟩
   ·exact .inl (by simp [J.cr,c])
 -- the others' blocks are not b
 have B:∀n q x,h n=some q->n≠t->bD j n q=some x->x≠b:=fun n q x hn i f c=>by
  subst c;rcases p with hc|⟨hc,_⟩
  ·have:=Own.lt hl (.inr ⟨n,q,hn,f⟩); omega
  ·exact i (hl.1.inj n q t _ x hn ht f hc)
 have I:∀x,x∈jl->x≠b:=fun x f c=>by
  subst c;rcases p with hc|⟨hc,_⟩
  ·have:=Own.lt hl (.inl f); omega
  ·exact hl.2.apart x f (.inr ⟨t,_,ht,hc⟩)
 have C:∀x,x≠b->(j.cr t ⟨some (b,cap),m'⟩ b (m'*k)).F x=j.F x:=fun x f=>by simp [J.cr,f]
 have r:∀n q,h n=some q->n≠t->fq (j.cr t ⟨some (b,cap),m'⟩ b (m'*k)) w' n q/\bD (j.cr t ⟨some (b,cap),m'⟩ b (m'*k)) n q=bD j n q:=fun n q hn i =>
  (hl.1.obj n q hn).2.keep hle (hl.1.obj n q hn).1 (fun x f=>⟨z x (B n q x hn i f) (Own.lt hl (.inr ⟨n,q,hn,f⟩)),C x (B n q x hn i f)⟩)
   (fun _=>by simp [J.cr,i])
 have K:bD (j.cr t ⟨some (b,cap),m'⟩ b (m'*k)) t (.tok k m' E)=some b:=by simp [bD,J.cr]
 have N:∀jl x,Own (j.cr t ⟨some (b,cap),m'⟩ b (m'*k)) (h.set t (some (.tok k m' E))) jl x->x=b\/Own j h jl x:=by
  rintro jl x (f|⟨n,q,hn,f⟩)
  ·exact .inr (.inl f)
  ·by_cases c:n=t
   ·subst c; rw [ah.bX] at hn; simp only [Option.some.injEq] at hn; subst hn;rw [K] at f; simp only [Option.some.injEq] at f; exact .inl f.symm
   ·rw [ah.bP h _ c] at hn;exact .inr (.inr ⟨n,q,hn,(r n q hn c).2▸f⟩)
 refine⟨⟨⟨fun n q hn=>?_,fun s G u H x h1 g v y=>?_,fun x f=>?_⟩,
  ⟨og hl.2.each fun xs x f h=>h.keep hle ⟨z x (I x f) (Own.lt hl (.inl f)),C x (I x f)⟩,hl.2.nodup,fun x f l=>?_⟩⟩, ?_⟩
 ·by_cases c:n=t
  ·subst c; rw [ah.bX] at hn; simp only [Option.some.injEq] at hn; subst hn;refine⟨Y,some (b,cap),by simp [J.cr],fun ab ad O=>?_,fun _ h=>by cases h⟩;simp only [Option.some.injEq,Prod.mk.injEq] at O;obtain⟨rfl,rfl⟩:=O;exact⟨cs,e,L,P,by simp [J.cr],Q,X⟩
  ·rw [ah.bP h _ c] at hn;exact⟨(hl.1.obj n q hn).1,(r n q hn c).1⟩
 ·by_cases c1:s=t<;>by_cases c2:u=t
  ·omega
  ·subst c1; rw [ah.bX] at h1; simp only [Option.some.injEq] at h1; subst h1;rw [ah.bP h _ c2] at g;rw [K] at v; simp only [Option.some.injEq] at v;exact absurd v.symm (B u H x g c2 ((r u H g c2).2▸y))
  ·subst c2; rw [ah.bX] at g; simp only [Option.some.injEq] at g; subst g;rw [ah.bP h _ c1] at h1;rw [K] at y; simp only [Option.some.injEq] at y;exact absurd y.symm (B s G x h1 c1 ((r s G h1 c1).2▸v))
  ·rw [ah.bP h _ c1] at h1; rw [ah.bP h _ c2] at g;exact hl.1.inj s G u H x h1 g ((r s G h1 c1).2▸v) ((r u H g c2).2▸y)
 ·have ag:=fO L;rw [C x (by omega)];exact hl.1.fresh x (by omega)
 ·rcases N [] x l with c|c
  ·exact I x f c
  ·exact hl.2.apart x f c
 ·refine { toLe:=hle,size:=R,frame:=fun x f hn=>?_,own:=fun x f l=>?_,os:=S,tape:=U,output:=W }
  ·have i:x≠b:=fun c=>by
    subst c;rcases p with hc|⟨hc,_⟩
    ·omega
    ·exact hn (.inr ⟨t,_,ht,hc⟩)
   exact⟨z x i f,C x i⟩
  ·rcases N jl x l with c|c
   ·subst c;rcases p with hc|⟨hc,_⟩
    ·omega
    ·exact .inr ⟨t,_,ht,hc⟩
   ·exact c
theorem HL.Ma {j:J}{w:World}{jl:List Nat}{ls:List (List D)}{h:ah}(hl:HL j w jl ls h){t k:Nat}(ht:h t=some (.tok k 0)) :
  HL (j.cr t ⟨some (w.heap.size,0),1⟩ w.heap.size 0) (w.alloc (.map #[] 0)) jl ls (h.set t (some (.map []))) /\
   bw j w (Own j h jl) (j.cr t ⟨some (w.heap.size,0),1⟩ w.heap.size 0) (w.alloc (.map #[] 0)) (Own (j.cr t ⟨some (w.heap.size,0),1⟩ w.heap.size 0) (h.set t (some (.map []))) jl) /\
   aX (j.cr t ⟨some (w.heap.size,0),1⟩ w.heap.size 0) (w.alloc (.map #[] 0)) jl (.a (.d (.map t))) (.map (some w.heap.size)):=by
 obtain⟨H,dP,N,hblk,_⟩:=hl.1.obj t _ ht;have I:j.F w.heap.size=0:=hl.1.fresh _ (Nat.le_refl _);have s:∀x,x<w.heap.size->(w.alloc (.map #[] 0)).heap[x]?=w.heap[x]?:=fun x b=>pZ b;generalize l:j.cr t ⟨some (w.heap.size,0),1⟩ w.heap.size 0=j';have g:∀x,j'.F x=j.F x:=fun x=>by
  subst l; simp only [J.cr]; split
  ·rename_i c; rw [c,I]
  ·rfl
 have C:j'.next=j.next:=by subst l; rfl
 have u:j'.tok t=some ⟨some (w.heap.size,0),1⟩:=by subst l; simp [J.cr]
 have K:∀x,x≠t->j'.tok x=j.tok x:=fun x b=>by subst l; simp [J.cr,b]
 have hle:Le j w j' (w.alloc (.map #[] 0)):=by
  refine⟨by rw [C]; exact Nat.le_refl _,fun _ _=>by subst l; rfl,fun x=>by rw [g]; exact Nat.le_refl _,fun x o m=>?_,fun x b=>?_⟩
  ·refine p7 (s x ?_);rcases Nat.lt_or_ge x w.heap.size with h1|h1
   ·exact h1
   ·rw [hl.1.fresh x h1] at m; omega
  ·by_cases c:x=t
   ·subst c; exact .inr ⟨_,_,N,u,Nat.zero_lt_one⟩
   ·exact .inl (K x c)
 have E:∀n q x,h n=some q->bD j n q=some x->x<w.heap.size:=fun n q x hn b=>Own.lt hl (.inr ⟨n,q,hn,b⟩);have L:∀x,x∈jl->x<w.heap.size:=fun x b=>Own.lt hl (.inl b);have i:∀n q,h n=some q->n≠t->fq j' (w.alloc (.map #[] 0)) n q/\bD j' n q=bD j n q:=fun n q hn O =>
  (hl.1.obj n q hn).2.keep hle (hl.1.obj n q hn).1 (fun x b=>⟨s x (E n q x hn b),g x⟩) (fun _=>K n O)
 have G:bD j' t (.map [])=some w.heap.size:=by simp [bD,u]
 have M:∀jl x,Own j' (h.set t (some (.map []))) jl x->x=w.heap.size\/Own j h jl x:=by
  rintro jl x (b|⟨n,q,hn,b⟩)
  ·exact .inr (.inl b)
  ·by_cases c:n=t
   ·subst c; rw [ah.bX] at hn; simp only [Option.some.injEq] at hn; subst hn;rw [G] at b; simp only [Option.some.injEq] at b; exact .inl b.symm
   ·rw [ah.bP h _ c] at hn;exact .inr (.inr ⟨n,q,hn,(i n q hn c).2▸b⟩)
 refine⟨⟨⟨fun n q hn=>?_,fun p v r y x h1 f z B=>?_,fun x b=>?_⟩,
  ⟨og hl.2.each fun xs x b h=>h.keep hle ⟨s x (L x b),g x⟩,hl.2.nodup,fun x b m=>?_⟩⟩, ?_, ?_⟩
 ·rw [C];by_cases c:n=t
  ·subst c; rw [ah.bX] at hn; simp only [Option.some.injEq] at hn; subst hn;exact⟨H,w.heap.size,0,[],0,u,heap_alloc_new w _,.nil,by rw [g]; exact I,List.nodup_nil,(fun _ h=>by cases h),List.nodup_nil⟩
  ·rw [ah.bP h _ c] at hn;exact⟨(hl.1.obj n q hn).1,(i n q hn c).1⟩
 ·by_cases c1:p=t<;>by_cases c2:r=t
  ·omega
  ·subst c1; rw [ah.bX] at h1; simp only [Option.some.injEq] at h1; subst h1;rw [ah.bP h _ c2] at f;rw [G] at z; simp only [Option.some.injEq] at z;have:=E r y x f ((i r y f c2).2▸B); omega
  ·subst c2; rw [ah.bX] at f; simp only [Option.some.injEq] at f; subst f;rw [ah.bP h _ c1] at h1;rw [G] at B; simp only [Option.some.injEq] at B;have:=E p v x h1 ((i p v h1 c1).2▸z); omega
  ·rw [ah.bP h _ c1] at h1; rw [ah.bP h _ c2] at f;exact hl.1.inj p v r y x h1 f ((i p v h1 c1).2▸z) ((i r y f c2).2▸B)
 ·rw [g];simp only [World.size_alloc] at b;exact hl.1.fresh x (by omega)
 ·rcases M [] x m with c|c
  ·have:=L x b; omega
  ·exact hl.2.apart x b c
 ·refine { toLe:=hle,size:=(by simp),frame:=fun x b hn=>⟨s x b,g x⟩,own:=fun x b m=>?_,os:=rfl,tape:=rfl,output:=fC.rfl };rcases M jl x m with c|c
  ·omega
  ·exact c
 ·show aB j' (w.alloc (.map #[] 0)) (.map t) (.map (some w.heap.size));refine .map t w.heap.size (by rw [C]; exact H) fun tk hk=>?_;rw [u] at hk;obtain rfl:=Option.some.inj hk;exact⟨Nat.le_refl _,fun _=>⟨0,rfl⟩⟩
end Go.Ab
/-
 The abstract state of a running function,one operation,a region in the order of its text.
-/
namespace Go.Ab
open Go Go.RowKit
variable {ak:bf}
class d_ where
 ds:List Deferred
instance (priority:=low) d_.nothing:d_:=⟨[]⟩
variable {eP:d_}
abbrev Ts:=List (Nat×V)
def get:Ts->Nat->V
 | [],_=>.any
 | (k,v)::r,n=>bif Nat.beq k n then v else get r n
theorem fD (k:Nat) (v:V) (r:Ts):get ((k,v)::r) k=v:=by simp [get]
theorem eN {k n:Nat}(v:V) (r:Ts) (h:k≠n):get ((k,v)::r) n=get r n:=by
 have:Nat.beq k n=false:=Bool.eq_false_iff.2 fun e=>h (Nat.eq_of_beq_eq_true e);simp [get,this]
structure St where
 n:Nat
 ts:Ts
 ls:List (List D)
 h:ah
def rz:Value->Option D
 | .bool b=>some (.bool b)
 | .int k n=>some (.int k n)
 | .string s=>bif Nat.ble s.data.toList.length eF then some (.str s.data.toList) else none
 | .slice none 0 0=>some (.slice 0 none true [])
 | .pointer none=>some .ep
 | .map none=>some .jK
 | .nilFunc=>some .nilFunc
 | .nilIface=>some .nilIface
 | _=>none
def EW (v:Value):V :=
 match rz v with
 | some x=>.a (.d x)
 | none=>.any
def ev (ts:Ts):Operand->V
 | .tmp t=>get ts t
 | .const v=>EW v
 | .global _=>.any
 | .func f=>.a (.d (.func f []))
theorem ze (j:J) (w:World) (v:Value) (x:D) (h:rz v=some x):aB j w x v:=by
 unfold rz at h
 split at h<;>simp at h
 ·subst h; exact .bool _
 ·subst h; exact .int _ _
 ·rename_i s
  cases c:Nat.ble s.size eF with
  | false=>rw [c] at h; simp at h
  | true =>
   rw [c] at h; simp at h;subst h;have:=aB.str (j:=j) (w:=w) s.data.toList (by simpa using Nat.le_of_ble_eq_true c)
   simpa using this
 ·subst h; exact .fB _ _ (by simp)
 ·subst h; exact .ep
 ·subst h; exact .jK
 ·subst h; exact .nilFunc
 ·subst h; exact .nilIface
theorem mH {j:J}{w:World}{jl:List Nat}{ts:Ts}{a:Act}(h:∀k,aX j w jl (get ts k) (a.tmps.getD k undef)) (x:Operand):aX j w jl (ev ts x) (a.eval x):=by
 cases x with
 | tmp t=>exact h t
 | const v =>
  simp only [ev,EW,Act.eval]
  split
  ·rename_i x b; exact ze j w v x b
  ·trivial
 | global g=>trivial
 | func f=>exact aB.func f [] [] rfl (by simp)
structure dB [d_] (j:J) (w:World) (jl:List Nat) (σ:St) (a:Act):Prop where
 defers:a.defers=d_.ds
 size:a.tmps.size=σ.n
 tmps:∀k,aX j w jl (get σ.ts k) (a.tmps.getD k undef)
 hl:HL j w jl σ.ls σ.h
structure Fx where
 rl:Bool:=false
 wl:Bool:=false
 rh:Bool:=false
 wh:Bool:=false
 nu:Bool:=false
def dW [bf] (P:Program) (o:Oper) (ts:Ts) (ls:List (List D)) (h:ah) (R:V->List (List D)->ah->Prop):Prop :=
 ∀(j:J) (w:World) (jl:List Nat) (a:Act),HL j w jl ls h->(∀x,x∈o.op.operands->aX j w jl (ev ts x) (a.eval x)) ->
  ∀(K:Act->World->Prop) (Q:Exit->Act->World->Prop),
   (∀v aH h' cv j' w' b,R v aH h'->aX j' w' b v cv->HL j' w' b aH h'->Ext jl b->bw j w (Own j h jl) j' w' (Own j' h' b)->K (a.put o.dst cv) w')->o.wp P a w K Q
def ar [bf] (P:Program) (o:Oper) (ts:Ts) (ls:List (List D)) (h:ah) (fx:Fx) (v:V) (aH:List (List D)) (h':ah):Prop :=
 ∀L H,((fx.rl||fx.wl)=true->L=ls)->((fx.rh||fx.wh)=true->H=h) ->
  dW P o ts L H fun u l k=>u=v/\l=(bif fx.wl then aH else L)/\k=(bif fx.wh then h' else H)
theorem ar.step {P:Program}{o:Oper}{ts:Ts}{ls aH:List (List D)}{h h':ah}{fx:Fx}{v:V}(hc:ar P o ts ls h fx v aH h') :
  dW P o ts ls h fun u l k=>u=v/\l=(bif fx.wl then aH else ls)/\k=(bif fx.wh then h' else h) :=
 hc ls h (fun _=>rfl) (fun _=>rfl)
theorem dW.mono {P:Program}{o:Oper}{ts:Ts}{ls:List (List D)}{h:ah}{R b:V->List (List D)->ah->Prop}(f:dW P o ts ls h R) (hr:∀v l k,R v l k->b v l k):dW P o ts ls h b :=
 fun j w jl a hl g K Q hk=>f j w jl a hl g K Q fun v aH h' cv j' w' i r=>hk v aH h' cv j' w' i (hr _ _ _ r)
def ij (dst:Option Tmp) (v:V) (ts:Ts):Ts :=
 match dst with
 | some d=>(d,v)::ts
 | none=>ts
def iq (dst:Option Tmp) (n:Nat):Bool :=
 match dst with
 | some d=>Nat.blt d n
 | none=>true
theorem Mb {j:J}{w:World}{jl:List Nat}{ts:Ts}{a:Act}{n:Nat}(b:a.tmps.size=n) (h:∀k,aX j w jl (get ts k) (a.tmps.getD k undef)){dst:Option Tmp}(f:iq dst n=true)
  {v:V}{cv:Value}(hv:aX j w jl v cv):∀k,aX j w jl (get (ij dst v ts) k) ((a.put dst cv).tmps.getD k undef):=by
 intro k;cases dst with
 | none=>exact h k
 | some d =>
  simp only [ij,Act.put];have aY:d<a.tmps.size:=by
   have:Nat.blt d n=true:=f;rw [b]; simpa [Nat.blt_eq] using this
  by_cases e:d=k
  ·subst e;rw [fD]
   simpa [Array.getD_eq_getD_getElem?,aY] using hv
  ·rw [eN _ _ e];have:=h k
   simpa [Array.getD_eq_getD_getElem?,Array.getElem?_setIfInBounds,e] using this
theorem fR (a:Act) (dst:Option Tmp) (v:Value):(a.put dst v).tmps.size=a.tmps.size:=by cases dst<;>simp [Act.put]
theorem put_defers (a:Act) (dst:Option Tmp) (v:Value):(a.put dst v).defers=a.defers:=by cases dst<;>rfl
theorem dB.put {j j':J}{w w':World}{jl b:List Nat}{σ:St}{a:Act}(h:dB j w jl σ a) (hle:Le j w j' w') (f:Ext jl b){dst:Option Tmp}(g:iq dst σ.n=true)
  {v:V}{cv:Value}(hv:aX j' w' b v cv){aH:List (List D)}{h':ah}(hl:HL j' w' b aH h'):dB j' w' b ⟨σ.n,ij dst v σ.ts,aH,h'⟩ (a.put dst cv) :=
 ⟨by rw [put_defers]; exact h.defers,by rw [fR]; exact h.size,Mb h.size (fun k=>(h.tmps k).mono hle f) g hv,hl⟩
def guardOf (ops:Array Oper) (o:Oper):Option (Nat×Bool) :=
 match o.guard with
 | none=>none
 | some (g,want)=>match (ops[g]?).bind (·.dst) with
  | some d=>some (d,want)
  | none=>none
theorem rA {ops:Array Oper}{o:Oper}{tmps:Array Value}(h:o.guard=none):Region.wanted o (yielded ops tmps)=true:=by simp [Region.wanted,h]
theorem zf {j:J}{w:World}{jl:List Nat}{ts:Ts}{a:Act}{ops:Array Oper}{o:Oper}{d:Nat}{want b:Bool}(f:guardOf ops o=some (d,want))
  (i:get ts d=.a (.d (.bool b))) (h:aX j w jl (get ts d) (a.tmps.getD d undef)):Region.wanted o (yielded ops a.tmps)=(b==want):=by
 unfold guardOf at f;rw [i] at h;have hv:a.tmps.getD d undef=.bool b:=by
  have h':aB j w (.bool b) (a.tmps.getD d undef):=h;generalize a.tmps.getD d undef=x at h';cases h'; rfl
 have k:a.tmps[d]?=some (.bool b):=by
  rw [Array.getD_eq_getD_getElem?] at hv;cases e:a.tmps[d]? with
  | none=>rw [e] at hv; simp [undef] at hv
  | some x=>rw [e] at hv; simp at hv; rw [hv]
 split at f
 ·simp at f
 ·rename_i g l m
  split at f
  ·rename_i q p
   simp only [Option.some.injEq,Prod.mk.injEq] at f;obtain⟨rfl,rfl⟩:=f;simp only [Region.wanted,m,yielded,p,Option.bind_some,k];cases b<;>cases l<;>rfl
  ·simp at f
def aQ [bf] [d_] (P:Program) (ops:Array Oper) (l:List Oper) (Q:St->Prop) (σ:St):Prop :=
 ∀(j:J) (w:World) (jl:List Nat) (a:Act),dB j w jl σ a->∀(f:Exit->Act->World->Prop),
  (∀b j' w' g i,Q b->dB j' w' g b i->bw j w (Own j σ.h jl) j' w' (Own j' b.h g)->f .normal i w')->wpList P ops f l a w
section
variable {P:Program}{ops:Array Oper}{rest:List Oper}{o:Oper}{Q:St->Prop}{n:Nat}{ts:Ts}{ls:List (List D)}{h:ah}
theorem aQ.nil {σ:St}(hq:Q σ):aQ P ops [] Q σ:=fun _ _ _ _ b _ hk=>hk _ _ _ _ _ hq b (bw.refl _ _ _)
theorem aQ.run {R:V->List (List D)->ah->Prop}(m:dW P o ts ls h R) (p:iq o.dst n=true)
  (hr:∀v aH h',R v aH h'->aQ P ops rest Q ⟨n,ij o.dst v ts,aH,h'⟩)
  {j:J}{w:World}{jl:List Nat}{a:Act}(i:dB j w jl ⟨n,ts,ls,h⟩ a) (q:Region.wanted o (yielded ops a.tmps)=true) (f:Exit->Act->World->Prop)
  (hk:∀b j' w' g k,Q b->dB j' w' g b k->bw j w (Own j h jl) j' w' (Own j' b.h g)->f .normal k w'):wpList P ops f (o::rest) a w:=by
 refine wpList_step fun K s=>?_;rw [if_pos q];refine m j w jl a i.hl (fun x _=>mH i.tmps x) K f fun v aH h' cv j' w' g r hv hl t l=>s _ _ ?_;exact hr v aH h' r j' w' g _ (i.put l.toLe t p hv hl) f fun b u y z a2 hq B C=>hk b u y z a2 hq B (l.trans C)
theorem aQ.EY {R:V->List (List D)->ah->Prop}(b:dW P o ts ls h R) (f:o.guard=none) (g:iq o.dst n=true)
  (hr:∀v aH h',R v aH h'->aQ P ops rest Q ⟨n,ij o.dst v ts,aH,h'⟩):aQ P ops (o::rest) Q ⟨n,ts,ls,h⟩ :=
 fun _ _ _ _ i j hk=>aQ.run b g hr i (rA f) j hk
theorem aQ.step {fx:Fx}{v:V}{aH:List (List D)}{h':ah}(b:ar P o ts ls h fx v aH h') (f:o.guard=none) (g:iq o.dst n=true)
  (hr:aQ P ops rest Q ⟨n,ij o.dst v ts,(bif fx.wl then aH else ls),(bif fx.wh then h' else h)⟩):aQ P ops (o::rest) Q ⟨n,ts,ls,h⟩ :=
 aQ.EY b.step f g fun _ _ _ ⟨i,j,k⟩=>by rw [i,j,k]; exact hr
end
end Go.Ab
/-
 A region that draws its order: one walk in the order of the text serves every order,where what is not ordered does not meet.
-/
namespace Go.Ab
open Go Go.RowKit
variable {ak:bf}
def mI [bf] (P:Program) (ops:Array Oper) (n:Nat) (o:Oper) (ts:Ts) (ls:List (List D)) (h:ah) (fx:Fx) (v:V) (aH:List (List D)) (h':ah):Prop :=
 iq o.dst n=true/\∀L H,((fx.rl||fx.wl)=true->L=ls)->((fx.rh||fx.wh)=true->H=h) ->
  ∀(j:J) (w:World) (jl:List Nat) (a:Act),HL j w jl L H->(∀t,t∈o.looksAt ops->aX j w jl (get ts t) (a.tmps.getD t undef)) ->
   ∀(K:Act->World->Prop) (Q:Exit->Act->World->Prop),
    (∀cv j' w' b,aX j' w' b v cv->HL j' w' b (bif fx.wl then aH else L) (bif fx.wh then h' else H)->Ext jl b ->
     bw j w (Own j H jl) j' w' (Own j' (bif fx.wh then h' else H) b)->K (a.put o.dst cv) w') ->
    if Region.wanted o (yielded ops a.tmps) then o.wp P a w K Q else K (a.put o.dst undef) w
theorem EZ {j:J}{w:World}{jl:List Nat}{ts:Ts}{a:Act}{ops:Array Oper}{o:Oper}(h:∀t,t∈o.looksAt ops->aX j w jl (get ts t) (a.tmps.getD t undef)) :
  ∀x,x∈o.op.operands->aX j w jl (ev ts x) (a.eval x):=by
 intro x b;cases x with
 | tmp t=>exact h t (by simp only [Oper.looksAt,List.mem_append,List.mem_filterMap]; exact .inl ⟨.tmp t,by simpa using b,rfl⟩)
 | const v=>exact mH (ts:=[]) (a:=⟨#[],[]⟩) (fun _=>trivial) (.const v)
 | global g=>trivial
 | func f=>exact mH (ts:=[]) (a:=⟨#[],[]⟩) (fun _=>trivial) (.func f)
theorem Mc {ops:Array Oper}{o:Oper}{d:Nat}{want:Bool}(b:guardOf ops o=some (d,want)):d∈o.looksAt ops:=by
 unfold guardOf at b
 split at b
 ·simp at b
 ·rename_i g j f
  split at b
  ·rename_i k i
   simp only [Option.some.injEq,Prod.mk.injEq] at b;obtain⟨rfl,rfl⟩:=b;simp only [Oper.looksAt,f,List.mem_append]
   right
   rw [i]; simp
  ·simp at b
section
variable {P:Program}{ops:Array Oper}{o:Oper}{n:Nat}{ts:Ts}{ls aH:List (List D)}{h h':ah}{fx:Fx}{v:V}
theorem mI.plain (b:ar P o ts ls h fx v aH h') (f:o.guard=none) (g:iq o.dst n=true):mI P ops n o ts ls h fx v aH h':=by
 refine⟨g,fun L H i hH j w jl a hl k K Q hk=>?_⟩;rw [if_pos (rA f)];exact b L H i hH j w jl a hl (EZ k) K Q fun _ _ _ cv j' w' l ⟨m,p,q⟩=>by subst m p q; exact hk cv j' w' l
end
def p8 (o:Oper) (acc:List Nat):Nat:=o.after.toList.foldl (fun s e=>bif Region.binds .any e then s ||| (2 ^ e.on) ||| acc.getD e.on 0 else s) 0
def jc:List Oper->List Nat->List Nat
 | [],acc=>acc
 | o::r,acc=>jc r (acc++[p8 o acc])
theorem E0:∀(l:List Oper) (acc:List Nat),(jc l acc).length=acc.length+l.length/\(jc l acc).take acc.length=acc /\
  ∀k o,l[k]?=some o->(jc l acc)[acc.length+k]?=some (p8 o ((jc l acc).take (acc.length+k)))
 | [],acc=>by simp [jc]
 | o::r,acc=>by
  obtain⟨h1,b,f⟩:=E0 r (acc++[p8 o acc]);simp only [List.length_append,List.length_cons,List.length_nil] at h1 b f;have g:(jc r (acc++[p8 o acc])).take acc.length=acc:=by
   have:=congrArg (List.take acc.length) b;rw [List.take_take] at this
   simpa using this
  refine⟨by simp only [jc]; rw [h1]; simp; omega,g,fun k o' hk=>?_⟩;simp only [jc];cases k with
  | zero =>
   simp only [List.getElem?_cons_zero,Option.some.injEq] at hk;subst hk;rw [Nat.add_zero,g];have i:((jc r (acc++[p8 o acc])).take (acc.length+(0+1)))[acc.length]?=(acc++[p8 o acc])[acc.length]?:=by rw [b]
   rw [List.getElem?_take_of_lt (by omega)] at i;rw [i]; simp
  | succ k =>
   simp only [List.getElem?_cons_succ] at hk;have:=f k o' hk;have e:acc.length+(0+1)+k=acc.length+(k+1):=by omega
   rw [e] at this;exact this
theorem E1 (acc:List Nat) (p:Nat):∀(es:List Edge) (s:Nat),(es.foldl (fun s e=>bif Region.binds .any e then s ||| (2 ^ e.on) ||| acc.getD e.on 0 else s) s).testBit p=true ->
  s.testBit p=true\/∃e,e∈es/\Region.binds .any e=true/\(p=e.on\/(acc.getD e.on 0).testBit p=true)
 | [],s,h=>.inl h
 | e::es,s,h=>by
  simp only [List.foldl_cons] at h;rcases E1 acc p es _ h with h1|⟨f,h1,g,i⟩
  ·cases b:Region.binds .any e with
   | false=>rw [b] at h1; exact .inl h1
   | true =>
    rw [b] at h1;simp only [cond_true,Nat.testBit_or,Bool.or_eq_true] at h1;rcases h1 with (h1|h1)|h1
    ·exact .inl h1
    ·exact .inr ⟨e,by simp,b,.inl (by rw [Nat.testBit_two_pow] at h1; exact(of_decide_eq_true h1).symm)⟩
    ·exact .inr ⟨e,by simp,b,.inr h1⟩
  ·exact .inr ⟨f,by simp [h1],g,i⟩
def Fx.iF (x y:Fx):Bool:=(x.wl&&(y.rl||y.wl))||(y.wl&&x.rl)||(x.wh&&(y.rh||y.wh))||(y.wh&&x.rh)
def Fx.plain (x:Fx):Fx:={ x with nu:=false }
def E2 (T:List Nat) (i k:Nat):Bool:=T.all fun m=>!m.testBit k||m.testBit i
def E3 (ops:Array Oper) (T:List Nat) (l:List (Oper×Fx)):Bool :=
 (List.range l.length).all fun k=>match l[k]? with
  | none=>true
  | some (ok,b)=>ok.after.toList.all (fun e=>!Region.binds .any e||Nat.blt e.on k) &&
   (List.range k).all fun i=>match l[i]? with
    | none=>true
    | some (oi,f)=>(T.getD k 0).testBit i||(oi.apart ops ok&&!f.iF b)||(b.nu&&oi.apart ops ok&&E2 T i k)
def vV (ops:Array Oper) (b:List Fx):Bool:=E3 ops (jc ops.toList []) (ops.toList.zip b)
def ord (ops:Array Oper) (i k:Nat):Prop:=((jc ops.toList []).getD k 0).testBit i=true
def rB (P:Program) (o:Oper) (v:V) (ls aH:List (List D)):Prop :=
 ∃(z:List D) (d:Nat),o.guard=none/\o.dst=some d/\v=.cV ls.length 0/\aH=ls++[z] /\
  ∃(cs:List Value) (e:TypeId),(∀j w,aW (aB j w) z cs) /\
   ∀(a:Act) (w:World) (K:Act->World->Prop) (Q:Exit->Act->World->Prop),K (a.put o.dst (.pointer (some ⟨w.heap.size,0,none⟩))) (w.alloc (.cells cs.toArray e))->o.wp P a w K Q
def zg [bf] (P:Program) (ops:Array Oper) (n:Nat) (S:Nat->St) (fx:Nat->Fx) (v:Nat->V) (k:Nat) (o:Oper):Prop :=
 mI P ops n o (S k).ts (S k).ls (S k).h (fx k) (v k) (S (k+1)).ls (S (k+1)).h/\(S (k+1)).n=(S k).n/\(S (k+1)).ts=ij o.dst (v k) (S k).ts /\
  ((fx k).wl=false->(S (k+1)).ls=(S k).ls)/\((fx k).wh=false->(S (k+1)).h=(S k).h) /\
  ((fx k).nu=true->(fx k).wl=true/\(fx k).wh=false/\rB P o (v k) (S k).ls (S (k+1)).ls)
def au [bf] (P:Program) (ops:Array Oper) (n:Nat) (l:List Oper) (done:List Fx) (Q:St->Prop) (σ:St):Prop :=
 ∃(S:Nat->St) (fx:Nat->Fx) (v:Nat->V),S 0=σ/\(∀k o,l[k]?=some o->zg P ops n S fx v k o) /\
  vV ops (done.reverse++(List.range l.length).map fx)=true/\Q (S l.length)
theorem au.nil {P:Program}{ops:Array Oper}{n:Nat}{done:List Fx}{Q:St->Prop}{σ:St}(hc:vV ops done.reverse=true) (hq:Q σ):au P ops n [] done Q σ :=
 ⟨fun _=>σ,fun _=>{},fun _=>.any,rfl,by simp,by simpa using hc,hq⟩
theorem au.E4 {P:Program}{ops:Array Oper}{o:Oper}{rest:List Oper}{n:Nat}{done:List Fx}{Q:St->Prop}{ts:Ts}{ls aH:List (List D)}{h h':ah}{fx:Fx}{v:V}
  (hc:mI P ops n o ts ls h fx v aH h') (i:fx.nu=true->fx.wl=true/\fx.wh=false/\rB P o v ls aH)
  (hr:au P ops n rest (fx::done) Q ⟨n,ij o.dst v ts,(bif fx.wl then aH else ls),(bif fx.wh then h' else h)⟩) :
  au P ops n (o::rest) done Q ⟨n,ts,ls,h⟩:=by
 obtain⟨S,f,u,h0,h1,l,m⟩:=hr;refine⟨fun k=>match k with|0=>⟨n,ts,ls,h⟩|k+1=>S k,fun k=>match k with|0=>fx|k+1=>f k,fun k=>match k with|0=>v|k+1=>u k,rfl, ?_, ?_,m⟩
 ·intro k o' hk;cases k with
  | zero =>
   simp only [List.getElem?_cons_zero,Option.some.injEq] at hk;subst hk;unfold zg;dsimp only;rw [h0];refine⟨⟨hc.1,fun L H p hH j w jl a hl q K Q hk=>?_⟩,rfl,rfl,fun e=>by simp [e],fun e=>by simp [e],fun e=>?_⟩
   ·have:=hc.2 L H p hH j w jl a hl q K Q
    revert hk
    cases b:fx.wl<;>cases g:fx.wh<;>simp only [b,g,cond_true,cond_false] at this ⊢<;>exact this
   ·obtain⟨b,g,r⟩:=i e;exact⟨b,g,by rw [b]; exact r⟩
  | succ k =>
   simp only [List.getElem?_cons_succ] at hk;exact h1 k o' hk
 ·rw [List.length_cons,List.range_succ_eq_map,List.map_cons,List.map_map]
  simpa [Function.comp_def] using l
theorem au.cons {P:Program}{ops:Array Oper}{o:Oper}{rest:List Oper}{n:Nat}{done:List Fx}{Q:St->Prop}{ts:Ts}{ls aH:List (List D)}{h h':ah}{fx:Fx}{v:V}
  (hc:mI P ops n o ts ls h fx v aH h') (hr:au P ops n rest (fx.plain::done) Q ⟨n,ij o.dst v ts,(bif fx.wl then aH else ls),(bif fx.wh then h' else h)⟩) :
  au P ops n (o::rest) done Q ⟨n,ts,ls,h⟩ :=
 au.E4 (fx:=fx.plain) hc (fun e=>by cases e) hr
theorem au.born {P:Program}{ops:Array Oper}{o:Oper}{rest:List Oper}{n:Nat}{done:List Fx}{Q:St->Prop}{ts:Ts}{ls aH:List (List D)}{h:ah}{v:V}
  (b:rB P o v ls aH) (g:iq o.dst n=true) (hr:au P ops n rest ({ wl:=true,nu:=true }::done) Q ⟨n,ij o.dst v ts,aH,h⟩):au P ops n (o::rest) done Q ⟨n,ts,ls,h⟩:=by
 refine au.E4 (fx:={ wl:=true,nu:=true }) (h':=h) ⟨g,fun L H k hH j w jl a hl s K Q hk=>?_⟩ (fun _=>⟨rfl,rfl,b⟩) hr;obtain⟨z,d,l,t,hv,m,cs,e,p,hw⟩:=b;rw [if_pos (rA l)];have q:=k rfl;subst q;obtain⟨h1,r⟩:=hl.loc cs e z (p j w);refine hw a w K Q (hk _ j _ (jl++[w.heap.size]) ?_ ?_ (fun i x f=>by rw [List.getElem?_append_left (List.getElem?_eq_some_iff.1 f).1]; exact f) r)
 ·rw [hv]; exact⟨w.heap.size,by rw [hl.2.each.length]; simp,rfl⟩
 ·rw [m]; exact h1
def ol (ops:Array Oper) (fx:Nat->Fx) (i k:Nat):Prop:=i<k/\(fx k).nu=true/\∃oi ok,ops[i]?=some oi/\ops[k]?=some ok/\oi.apart ops ok=true/\∀m,ord ops k m->ord ops i m
def vo (ops:Array Oper) (fx:Nat->Fx) (i k:Nat):Prop:=ord ops i k\/ol ops fx i k
section
variable {P:Program}{ops:Array Oper}{n:Nat}{S:Nat->St}{fx:Nat->Fx}{v:Nat->V}
theorem Md (hc:vV ops ((List.range ops.toList.length).map fx)=true) :
  (∀k o,ops[k]?=some o->∀e,e∈o.after.toList->Region.binds .any e=true->e.on<k) /\
  (∀i k oi ok,i<k->ops[i]?=some oi->ops[k]?=some ok->vo ops fx i k\/(oi.apart ops ok=true/\(fx i).iF (fx k)=false)):=by
 have b:∀k o,ops[k]?=some o->(ops.toList.zip ((List.range ops.toList.length).map fx))[k]?=some (o,fx k):=by
  intro k o hk;have aY:k<ops.size:=by
   rcases Nat.lt_or_ge k ops.size with h|h
   ·exact h
   ·rw [Array.getElem?_eq_none h] at hk; simp at hk
  rw [List.getElem?_zip_eq_some];refine⟨by simpa using hk, ?_⟩;simp [aY]
 have hlen:∀k o,ops[k]?=some o->k<(ops.toList.zip ((List.range ops.toList.length).map fx)).length:=by
  intro k o hk;have:=b k o hk;exact(List.getElem?_eq_some_iff.1 this).1
 unfold vV E3 at hc;rw [List.all_eq_true] at hc;constructor
 ·intro k o hk e he j;have:=hc k (List.mem_range.2 (hlen k o hk));rw [b k o hk] at this;simp only [Bool.and_eq_true,List.all_eq_true] at this;have h1:=this.1 e he;rw [j] at h1
  simpa [Nat.blt_eq] using h1
 ·intro i k oi ok g hi hk;have:=hc k (List.mem_range.2 (hlen k ok hk));rw [b k ok hk] at this;simp only [Bool.and_eq_true,List.all_eq_true] at this;have h1:=this.2 i (List.mem_range.2 g);rw [b i oi hi] at h1;simp only [Bool.or_eq_true,Bool.and_eq_true] at h1;rcases h1 with (h1|h1)|h1
  ·exact .inl (.inl h1)
  ·exact .inr ⟨h1.1,by simpa using h1.2⟩
  ·refine .inl (.inr ⟨g,h1.1.1,oi,ok,hi,hk,h1.1.2,fun m hm=>?_⟩);have f:=h1.2;unfold E2 at f;rw [List.all_eq_true] at f;unfold ord at hm ⊢;rw [List.getD_eq_getElem?_getD] at hm ⊢;cases c:(jc ops.toList [])[m]? with
   | none=>rw [c] at hm; simp at hm
   | some x =>
    rw [c,Option.getD_some] at hm;rw [Option.getD_some];have:=f x (List.mem_of_getElem? c);rw [hm] at this
    simpa using this
theorem Me (aY:∀k o,ops[k]?=some o->∀e,e∈o.after.toList->Region.binds .any e=true->e.on<k){i k:Nat}(h:ord ops i k) :
  ∃o e,ops[k]?=some o/\e∈o.after.toList/\Region.binds .any e=true/\(i=e.on\/ord ops i e.on):=by
 obtain⟨h1,g,b⟩:=E0 ops.toList [];simp only [List.length_nil,Nat.zero_add] at h1 b;unfold ord at h;cases hk:ops[k]? with
 | none =>
  have:ops.toList.length<=k:=by
   rcases Nat.lt_or_ge k ops.size with c|c
   ·rw [Array.getElem?_eq_getElem c] at hk; simp at hk
   ·simpa using c
  rw [List.getD_eq_getElem?_getD,List.getElem?_eq_none (by omega)] at h;simp at h
 | some o =>
  have hm:=b k o (by simpa using hk);rw [List.getD_eq_getElem?_getD,hm,Option.getD_some] at h;unfold p8 at h;rcases E1 _ i _ _ h with c|⟨e,he,f,c⟩
  ·simp at c
  ·refine⟨o,e,rfl,he,f,c.imp id fun c=>?_⟩;have hl:=aY k o hk e he f;unfold ord;rw [List.getD_eq_getElem?_getD,List.getElem?_take_of_lt hl,<- List.getD_eq_getElem?_getD] at c;exact c
end
end Go.Ab
/-
 A region that draws its order: every order comes to the same end.
-/
namespace Go.Ab
open Go Go.RowKit
variable {ak:bf}
variable {eP:d_}
def br (bh:Array Bool) (i:Nat):Prop:=bh.getD i false=true
structure Inv [bf] [d_] (ops:Array Oper) (S:Nat->St) (fx:Nat->Fx) (v:Nat->V) (n:Nat) (j0:J) (w0:World) (O0:Nat->Prop) (cH bh:Array Bool) (lim:List (Nat×Nat)) (tv:Nat->Value) (j:J) (w:World) (jl:List Nat) (a:Act):Prop where
 mJ:cH.size=ops.size
 ue:bh.size=ops.size
 jd:∀i,br cH i↔(br bh i\/∃b,(i,b)∈lim)
 oo:∀k,br cH k->∀p,ord ops p k->br cH p
 closed:∀k,br bh k->∀p,vo ops fx p k->br bh p
 defers:a.defers=d_.ds
 rC:a.tmps.size=n
 agree:∀t,(∀m b o,(m,b)∈lim->ops[m]?=some o->o.dst≠some t)->a.tmps.getD t undef=tv t
 tm:∀t,∃k,k<=ops.size/\(∀p o,ops[p]?=some o->o.dst=some t->(br bh p↔p<k))/\aX j w jl (get (S k).ts t) (tv t)
 st:∃kl kh,kl<=ops.size/\kh<=ops.size/\(∀p,p<ops.size->(fx p).wl=true->(br bh p↔p<kl))/\(∀p,p<ops.size->(fx p).wh=true->(br bh p↔p<kh)) /\
  HL j w jl (S kl).ls (S kh).h/\bw j0 w0 O0 j w (Own j (S kh).h jl)/\∀m b,(m,b)∈lim->w0.heap.size<=b/\b<w.heap.size/\¬Own j (S kh).h jl b
 nd:lim.Pairwise fun x y=>x.1≠y.1/\x.2≠y.2
 p9:∀m b,(m,b)∈lim->¬br bh m/\(fx m).nu=true/\(∀p,ord ops p m->br bh p)/\∃o z d cs e,ops[m]?=some o/\o.dst=some d/\v m=.cV (S m).ls.length 0/\(S (m+1)).ls=(S m).ls++[z] /\
  (∀j w,aW (aB j w) z cs)/\w.heap[b]?=some (.cells cs.toArray e (0,0))/\j.F b=0/\a.tmps.getD d undef=.pointer (some ⟨b,0,none⟩)
section
variable {P:Program}{ops:Array Oper}{n:Nat}{S:Nat->St}{fx:Nat->Fx}{v:Nat->V}
theorem E5 {α:Type}(f:Nat->α){N:Nat}(W:Nat->Prop) (g:∀k,k<N->¬W k->f (k+1)=f k) :
  ∀(a b:Nat),a<=b->b<=N->(∀p,a<=p->p<b->¬W p)->f b=f a:=by
 intro a b j;induction b with
 | zero =>
  intro _ _;have:a=0:=by omega
  rw [this]
 | succ b i =>
  intro l hw;by_cases e:a=b+1
  ·rw [e]
  ·rw [g b (by omega) (hw b (by omega) (by omega))];exact i (by omega) (by omega) fun p h1 m=>hw p h1 (by omega)
theorem rD {α:Type}(f:Nat->α){N:Nat}(W X:Nat->Prop) (g:∀k,k<N->¬W k->f (k+1)=f k){k i:Nat}(hk:k<=N) (hi:i<=N)
  (h1:∀p,p<N->W p->(X p↔p<k)) (j:∀p,p<N->W p->(X p↔p<i)):f k=f i:=by
 rcases Nat.le_total k i with h|h
 ·exact(E5 f W g k i h hi fun p a b hw=>by have:=(j p (by omega) hw).2 b; have:=(h1 p (by omega) hw).1 this; omega).symm
 ·exact E5 f W g i k h hk fun p a b hw=>by have:=(h1 p (by omega) hw).2 b; have:=(j p (by omega) hw).1 this; omega
theorem E6 {bh:Array Bool}{i:Nat}(h:i∈Region.ready .any ops bh) (g:bh.size=ops.size) :
  ∃o,ops[i]?=some o/\i<ops.size/\¬br bh i/\∀e,e∈o.after.toList->Region.binds .any e=true->br bh e.on:=by
 simp only [Region.ready,List.mem_filter,List.mem_range,Bool.and_eq_true,Bool.not_eq_true'] at h;obtain⟨aY,h1,b⟩:=h;refine⟨ops[i],by simp [aY],aY, ?_, ?_⟩
 ·unfold br;rw [Array.getD_eq_getD_getElem?,Array.getElem?_eq_getElem (by omega)] at h1 ⊢;simp at h1 ⊢; exact h1
 ·intro e he f;rw [Array.getElem?_eq_getElem aY] at b;simp only [Option.map_some,Option.getD_some,Array.all_eq_true'] at b;have:=b e (by simpa using he);rw [f] at this
  simpa [br] using this
theorem br.set {bh:Array Bool}{i p:Nat}(hi:i<bh.size):br (bh.setIfInBounds i true) p↔(p=i\/br bh p):=by
 unfold br;rw [Array.getD_eq_getD_getElem?,Array.getElem?_setIfInBounds];by_cases e:i=p
 ·subst e; simp [hi]
 ·rw [if_neg e];constructor
  ·intro h; right; rw [Array.getD_eq_getD_getElem?]; exact h
  ·rintro (h|h)
   ·omega
   ·rw [Array.getD_eq_getD_getElem?] at h; exact h
variable (aY:∀k o,ops[k]?=some o->∀e,e∈o.after.toList->Region.binds .any e=true->e.on<k)
 (dX:∀i k oi ok,i<k->ops[i]?=some oi->ops[k]?=some ok->vo ops fx i k\/(oi.apart ops ok=true/\(fx i).iF (fx k)=false))
 (hS:∀k o,ops[k]?=some o->zg P ops n S fx v k o)
 {j0:J}{w0:World}{O0:Nat->Prop}
include aY in
theorem zh {bh:Array Bool}{i:Nat}{o:Oper}(l:ops[i]?=some o) (m:∀k,br bh k->∀p,ord ops p k->br bh p)
  (f:∀e,e∈o.after.toList->Region.binds .any e=true->br bh e.on){p:Nat}(h:ord ops p i):br bh p:=by
 obtain⟨o',e,h1,g,j,b⟩:=Me aY h;rw [l] at h1; simp only [Option.some.injEq] at h1; subst h1;rcases b with b|b
 ·rw [b]; exact f e g j
 ·exact m e.on (f e g j) p b
include dX in
theorem uf {bh:Array Bool}{i:Nat}{o:Oper}(f:ops[i]?=some o) (g:¬br bh i) (l:∀k,br bh k->∀p,vo ops fx p k->br bh p)
  (m:∀p,vo ops fx p i->br bh p){p:Nat}{op:Oper}(j:ops[p]?=some op)
  (q:p<i->op.apart ops o=true->(fx p).iF (fx i)=false->False) (r:i<p->o.apart ops op=true->(fx i).iF (fx p)=false->False):br bh p↔p<i:=by
 rcases Nat.lt_trichotomy p i with h|h|h
 ·refine⟨fun _=>h,fun _=>?_⟩;rcases dX p i op o h j f with h1|⟨h1,b⟩
  ·exact m p h1
  ·exact(q h h1 b).elim
 ·subst h; exact⟨fun h=>(g h).elim,fun h=>by omega⟩
 ·refine⟨fun hr=>?_,fun h'=>by omega⟩;rcases dX i p o op h f j with h1|⟨h1,b⟩
  ·exact(g (l p hr i h1)).elim
  ·exact(r h h1 b).elim
theorem kR {i:Nat}(h:i<ops.size):ops[i]?=some ops[i]:=Array.getElem?_eq_getElem h
theorem p_ {i:Nat}{o:Oper}(h:ops[i]?=some o):i<ops.size:=by
 rcases Nat.lt_or_ge i ops.size with h'|h'
 ·exact h'
 ·rw [Array.getElem?_eq_none h'] at h; simp at h
include hS in
theorem E7 (t:Nat):∀k,k<ops.size->¬(∃o,ops[k]?=some o/\o.dst=some t)->get (S (k+1)).ts t=get (S k).ts t:=by
 intro k hk hn;rw [(hS k _ (kR hk)).2.2.1];cases b:(ops[k]).dst with
 | none=>rfl
 | some d =>
  simp only [ij];exact eN _ _ fun e=>hn ⟨_,kR hk,by rw [b,e]⟩
include dX hS in
theorem vW {bh:Array Bool}{i kl:Nat}{o:Oper}(b:ops[i]?=some o) (f:¬br bh i) (g:∀k,br bh k->∀p,vo ops fx p k->br bh p) (j:∀p,vo ops fx p i->br bh p)
  (l:kl<=ops.size) (m:∀p,p<ops.size->(fx p).wl=true->(br bh p↔p<kl)) (hr:((fx i).rl||(fx i).wl)=true):(S kl).ls=(S i).ls :=
 rD (fun k=>(S k).ls) (fun p=>(fx p).wl=true) (br bh) (fun k hk hn=>(hS k _ (kR hk)).2.2.2.1 (by simpa using hn)) l (Nat.le_of_lt (p_ b)) m fun p q hw =>
  uf dX b f g j (kR q) (fun _ _ c=>by simp [Fx.iF] at c; simp only [Bool.or_eq_true] at hr; rcases hr with r|r<;>simp [r,hw] at c)
   (fun _ _ c=>by simp [Fx.iF] at c; simp only [Bool.or_eq_true] at hr; rcases hr with r|r<;>simp [r,hw] at c)
include dX hS in
theorem zi {bh:Array Bool}{i kh:Nat}{o:Oper}(b:ops[i]?=some o) (f:¬br bh i) (g:∀k,br bh k->∀p,vo ops fx p k->br bh p) (j:∀p,vo ops fx p i->br bh p)
  (l:kh<=ops.size) (m:∀p,p<ops.size->(fx p).wh=true->(br bh p↔p<kh)) (hr:((fx i).rh||(fx i).wh)=true):(S kh).h=(S i).h :=
 rD (fun k=>(S k).h) (fun p=>(fx p).wh=true) (br bh) (fun k hk hn=>(hS k _ (kR hk)).2.2.2.2.1 (by simpa using hn)) l (Nat.le_of_lt (p_ b)) m fun p q hw =>
  uf dX b f g j (kR q) (fun _ _ c=>by simp [Fx.iF] at c; simp only [Bool.or_eq_true] at hr; rcases hr with r|r<;>simp [r,hw] at c)
   (fun _ _ c=>by simp [Fx.iF] at c; simp only [Bool.or_eq_true] at hr; rcases hr with r|r<;>simp [r,hw] at c)
include dX in
theorem zj {bh:Array Bool}{i k:Nat}{o:Oper}(l:i<bh.size) (m:ops[i]?=some o) (q:¬br bh i) (r:∀k,br bh k->∀p,vo ops fx p k->br bh p) (s:∀p,vo ops fx p i->br bh p)
  (W:Fx->Bool) (f:∀x y:Fx,W x=true->W y=true->x.iF y=true) (hw:∀p,p<ops.size->W (fx p)=true->(br bh p↔p<k)) :
  ∀p,p<ops.size->W (fx p)=true->(br (bh.setIfInBounds i true) p↔p<(bif W (fx i) then i+1 else k)):=by
 intro p g b;rw [br.set l];by_cases e:p=i
 ·subst e; simp [b]
 ·simp only [e,false_or];cases j:W (fx i) with
  | false=>simp only [cond_false]; exact hw p g b
  | true =>
   simp only [cond_true];have:=uf dX m q r s (kR g) (fun _ _ c=>by rw [f _ _ b j] at c; cases c) (fun _ _ c=>by rw [f _ _ j b] at c; cases c);rw [this]; omega
include dX hS in
theorem E8 {bh:Array Bool}{i:Nat}{o:Oper}{j j':J}{w w':World}{jl l:List Nat}{tv m:Nat->Value}(q:i<bh.size) (g:ops[i]?=some o) (r:¬br bh i)
  (s:∀k,br bh k->∀p,vo ops fx p k->br bh p) (u:∀p,vo ops fx p i->br bh p) (hle:Le j w j' w') (x:Ext jl l){cv:Value}(hv:aX j' w' l (v i) cv)
  (h1:∀t,o.dst=some t->m t=cv) (y:∀t,o.dst≠some t->m t=tv t)
  (z:∀t,∃k,k<=ops.size/\(∀p o,ops[p]?=some o->o.dst=some t->(br bh p↔p<k))/\aX j w jl (get (S k).ts t) (tv t)) :
  ∀t,∃k,k<=ops.size/\(∀p o,ops[p]?=some o->o.dst=some t->(br (bh.setIfInBounds i true) p↔p<k))/\aX j' w' l (get (S k).ts t) (m t):=by
 intro t;have E:=p_ g;by_cases ht:o.dst=some t
 ·refine⟨i+1,by omega,fun p op b f=>?_, ?_⟩
  ·rw [br.set q];by_cases e:p=i
   ·subst e; simp
   ·have:=uf dX g r s u b (fun _ c _=>(Oper.apart_spec c).2.1 t f ht) (fun _ c _=>(Oper.apart_spec c).2.1 t ht f);rw [this]; omega
  ·rw [(hS i o g).2.2.1,ht,h1 t ht];simp only [ij,fD];exact hv
 ·obtain⟨k,B,hw,C⟩:=z t;refine⟨k,B,fun p op b f=>?_, ?_⟩
  ·rw [br.set q];have:p≠i:=fun e=>by subst e; rw [g] at b; simp only [Option.some.injEq] at b; subst b; exact ht f
   simp only [this,false_or]; exact hw p op b f
  ·rw [y t ht]; exact C.mono hle x
theorem E9 (x y:Fx) (b:x.wl=true) (f:y.wl=true):x.iF y=true:=by simp [Fx.iF,b,f]
theorem Mf (x y:Fx) (b:x.wh=true) (f:y.wh=true):x.iF y=true:=by simp [Fx.iF,b,f]
theorem vX {bh:Array Bool}{i:Nat}{R:Nat->Nat->Prop}(f:i<bh.size) (g:∀k,br bh k->∀p,R p k->br bh p) (j:∀p,R p i->br bh p) :
  ∀k,br (bh.setIfInBounds i true) k->∀p,R p k->br (bh.setIfInBounds i true) p:=by
 intro k hr p b;rw [br.set f] at hr ⊢;rcases hr with hr|hr
 ·subst hr; exact .inr (j p b)
 ·exact .inr (g k hr p b)
theorem vY (a:Act) (dst:Option Tmp) (cv:Value) (t:Nat) (h:dst≠some t):(a.put dst cv).tmps.getD t undef=a.tmps.getD t undef:=by
 cases dst with
 | none=>rfl
 | some d =>
  have:d≠t:=fun e=>h (by rw [e]);simp [Act.put,Array.getD_eq_getD_getElem?,Array.getElem?_setIfInBounds,this]
theorem E_ (a:Act) (t:Nat) (cv:Value) (h:t<a.tmps.size):(a.put (some t) cv).tmps.getD t undef=cv:=by
 simp [Act.put,Array.getD_eq_getD_getElem?,h]
theorem Mg {bh:Array Bool}{i m:Nat}{o b:Oper}(dX:∀i k oi ok,i<k->ops[i]?=some oi->ops[k]?=some ok->vo ops fx i k\/(oi.apart ops ok=true/\(fx i).iF (fx k)=false))
  (g:ops[i]?=some o) (hm:ops[m]?=some b) (t:m≠i) (q:¬br bh m) (r:∀p,vo ops fx p i->br bh p) (s:¬ord ops i m){d:Nat}(f:b.dst=some d):d∉o.looksAt ops/\o.dst≠some d:=by
 rcases Nat.lt_or_ge m i with h|h
 ·rcases dX m i b o h hm g with h1|⟨h1,_⟩
  ·exact(q (r m h1)).elim
  ·exact⟨(Oper.apart_spec h1).1 d f,fun e=>(Oper.apart_spec h1).2.1 d f e⟩
 ·have h:i<m:=by omega
  have:o.apart ops b=true:=by
   rcases dX i m o b h g hm with (h1|⟨_,_,oi,ok,j,l,h1,_⟩)|⟨h1,_⟩
   ·exact(s h1).elim
   ·rw [g] at j; rw [hm] at l; simp only [Option.some.injEq] at j l; subst j l; exact h1
   ·exact h1
  exact⟨(Oper.apart_spec this).2.2 d f,fun e=>(Oper.apart_spec this).2.1 d e f⟩
include aY dX hS in
theorem Mh {cH bh:Array Bool}{lim:List (Nat×Nat)}{tv:Nat->Value}{j:J}{w:World}{jl:List Nat}{a:Act}(hinv:Inv ops S fx v n j0 w0 O0 cH bh lim tv j w jl a){i:Nat}{o:Oper}
  (f:ops[i]?=some o) (x:¬br cH i) (Y:∀e,e∈o.after.toList->Region.binds .any e=true->br cH e.on) (g:∀p,vo ops fx p i->br bh p)
  {K:Act->World->Prop}{Q:Exit->Act->World->Prop}(hk:∀Z j' w' y H,Inv ops S fx v n j0 w0 O0 (cH.setIfInBounds i true) (bh.setIfInBounds i true) lim Z j' w' y H->K H w'):wpOp P ops Q i K a w:=by
 have B:=p_ f;have q:i<bh.size:=by rw [hinv.ue]; exact B
 have I:i<cH.size:=by rw [hinv.mJ]; exact B
 have r:¬br bh i:=fun c=>x ((hinv.jd i).2 (.inl c));have L:∀b,(i,b)∉lim:=fun b c=>x ((hinv.jd i).2 (.inr ⟨b,c⟩));obtain⟨M,am,an,ao,ap,aq⟩:=hS i o f;obtain⟨kl,kh,aa,ab,N,O,ad,ae,R⟩:=hinv.st;have af:=vW dX hS f r hinv.closed g aa N;have hH:=zi dX hS f r hinv.closed g ab O;have U:∀m b l d,(m,b)∈lim->ops[m]?=some l->l.dst=some d->d∉o.looksAt ops/\o.dst≠some d:=fun m b l d hm C E =>
  Mg dX f C (fun e=>L b (e▸hm)) (hinv.p9 m b hm).1 g (fun c=>x (hinv.oo m ((hinv.jd m).2 (.inr ⟨b,hm⟩)) i c)) E
 have ag:∀t,t∈o.looksAt ops->aX j w jl (get (S i).ts t) (a.tmps.getD t undef):=by
  intro t ht;rw [hinv.agree t fun m b l hm C E=>(U m b l t hm C E).1 ht];obtain⟨k,hk,hw,hv⟩:=hinv.tm t;have:get (S k).ts t=get (S i).ts t :=
   rD (fun k=>get (S k).ts t) (fun p=>∃o,ops[p]?=some o/\o.dst=some t) (br bh) (E7 hS t) hk (Nat.le_of_lt B) (fun p _ ⟨op,h1,s⟩=>hw p op h1 s) fun p _ ⟨op,h1,s⟩ =>
    uf dX f r hinv.closed g h1 (fun _ c _=>(Oper.apart_spec c).1 t s ht) (fun _ c _=>(Oper.apart_spec c).2.2 t s ht)
  rw [<- this]; exact hv
 have u:=M.2 (S kl).ls (S kh).h af hH j w jl a ad ag K Q fun cv j' w' y hv hl ai he =>
  hk (fun t=>if o.dst=some t then cv else tv t) j' w' y _ ?_
 ·unfold wpOp;simp only [f]
  split
  ·rename_i hw; rw [if_pos hw] at u; exact .inl u
  ·rename_i hw; rw [if_neg hw] at u; exact u
 ·have F:(S (bif (fx i).wh then i+1 else kh)).h=(bif (fx i).wh then(S (i+1)).h else(S kh).h):=by cases (fx i).wh<;>rfl
  refine⟨by simp [hinv.mJ],by simp [hinv.ue],fun k=>?_,vX I hinv.oo fun p G=>zh aY f hinv.oo Y G,vX q hinv.closed g,by rw [put_defers]; exact hinv.defers,
   by rw [fR]; exact hinv.rC,fun t ht=>?_,E8 dX hS q f r hinv.closed g he.toLe ai hv (fun t e=>by simp [e]) (fun t e=>by simp [e]) hinv.tm, ?_,hinv.nd,fun m b hm=>?_⟩
  ·rw [br.set I,br.set q,hinv.jd k];constructor
   ·rintro (h|h|h)
    ·exact .inl (.inl h)
    ·exact .inl (.inr h)
    ·exact .inr h
   ·rintro ((h|h)|h)
    ·exact .inl h
    ·exact .inr (.inl h)
    ·exact .inr (.inr h)
  ·by_cases e:o.dst=some t
   ·rw [if_pos e,e];refine E_ a t cv ?_;have W:=M.1;rw [e] at W;rw [hinv.rC]; simpa [iq,Nat.blt_eq] using W
   ·rw [if_neg e,vY a o.dst cv t e]; exact hinv.agree t ht
  ·refine⟨(bif (fx i).wl then i+1 else kl),(bif (fx i).wh then i+1 else kh),by cases (fx i).wl<;>simp<;>omega,by cases (fx i).wh<;>simp<;>omega,
    zj dX q f r hinv.closed g (·.wl) E9 N,zj dX q f r hinv.closed g (·.wh) Mf O, ?_, ?_,fun m b hm=>?_⟩
   ·have aj:(S (bif (fx i).wl then i+1 else kl)).ls=(bif (fx i).wl then(S (i+1)).ls else(S kl).ls):=by cases (fx i).wl<;>rfl
    rw [aj,F]; exact hl
   ·rw [F]; exact ae.trans he
   ·obtain⟨g1,g2,g3⟩:=R m b hm;rw [F];exact⟨g1,Nat.lt_of_lt_of_le g2 he.size,fun c=>g3 (he.own b g2 c)⟩
  ·obtain⟨g1,g2,g0,l,z,d,cs,e,g3,g4,g5,g6,g7,g8,g9,g10⟩:=hinv.p9 m b hm;obtain⟨au,ak,al⟩:=R m b hm;have X:=he.frame b ak al;refine⟨fun c=>?_,g2,fun p G=>(br.set q).2 (.inr (g0 p G)),l,z,d,cs,e,g3,g4,g5,g6,g7,by rw [X.1]; exact g8,by rw [X.2]; exact g9, ?_⟩
   ·rcases (br.set q).1 c with c|c
    ·subst c; exact L b hm
    ·exact g1 c
   ·rw [vY a o.dst cv d (U m b l d hm g3 g4).2]; exact g10
include aY dX hS in
theorem Mi {cH bh:Array Bool}{lim:List (Nat×Nat)}{tv:Nat->Value}{j:J}{w:World}{jl:List Nat}{a:Act}(hinv:Inv ops S fx v n j0 w0 O0 cH bh lim tv j w jl a){i:Nat}{o:Oper}
  (f:ops[i]?=some o) (y:¬br cH i) (U:∀e,e∈o.after.toList->Region.binds .any e=true->br cH e.on) (E:∀p,ord ops p i->br bh p) (F:(fx i).nu=true)
  {K:Act->World->Prop}{Q:Exit->Act->World->Prop}(hk:∀w' G b,Inv ops S fx v n j0 w0 O0 (cH.setIfInBounds i true) bh ((i,b)::lim) tv j w' jl G->K G w'):wpOp P ops Q i K a w:=by
 have W:=p_ f;have H:i<cH.size:=by rw [hinv.mJ]; exact W
 have X:¬br bh i:=fun c=>y ((hinv.jd i).2 (.inl c));have I:∀b,(i,b)∉lim:=fun b c=>y ((hinv.jd i).2 (.inr ⟨b,c⟩));obtain⟨Y,az,aA,aB,aC,Z⟩:=hS i o f;obtain⟨aD,aE,z,d,aa,l,hv,ab,cs,e,ad,ae⟩:=Z F;obtain⟨kl,kh,af,ag,ai,aj,s,L,B⟩:=hinv.st;have al:d<a.tmps.size:=by
  have M:=Y.1;rw [l] at M;rw [hinv.rC]; simpa [iq,Nat.blt_eq] using M
 have am:∀m b g t,(m,b)∈lim->ops[m]?=some g->g.dst=some t->t≠d:=fun m b g t hm u ht e=>by
  subst e;have aF:m≠i:=fun e=>I b (e▸hm);have an:¬ord ops i m:=fun c=>y (hinv.oo m ((hinv.jd m).2 (.inr ⟨b,hm⟩)) i c);rcases Nat.lt_or_ge m i with h|h
  ·rcases dX m i g o h u f with (h1|⟨_,_,oi,ok,q,r,h1,_⟩)|⟨h1,_⟩
   ·exact(hinv.p9 m b hm).1 (E m h1)
   ·rw [u] at q; rw [f] at r; simp only [Option.some.injEq] at q r; subst q r; exact(Oper.apart_spec h1).2.1 t ht l
   ·exact(Oper.apart_spec h1).2.1 t ht l
  ·rcases dX i m o g (by omega) f u with (h1|⟨_,_,oi,ok,q,r,h1,_⟩)|⟨h1,_⟩
   ·exact an h1
   ·rw [f] at q; rw [u] at r; simp only [Option.some.injEq] at q r; subst q r; exact(Oper.apart_spec h1).2.1 t l ht
   ·exact(Oper.apart_spec h1).2.1 t l ht
 have N:=s.data (ak:=ak) (.cells cs.toArray e) 0;rw [J.ud (s.1.fresh _ (Nat.le_refl _))] at N;obtain⟨ao,O⟩:=N;unfold wpOp;simp only [f];rw [if_pos (rA aa)];refine .inl (ae a w K Q (hk _ _ w.heap.size ?_));refine⟨by simp [hinv.mJ],hinv.ue,fun k=>?_,vX H hinv.oo fun p ap=>zh aY f hinv.oo U ap,hinv.closed,by rw [put_defers]; exact hinv.defers,by rw [fR]; exact hinv.rC,
  fun t ht=>?_,fun t=>?_,⟨kl,kh,af,ag,ai,aj,ao,L.trans O,fun m b hm=>?_⟩, ?_,fun m b hm=>?_⟩
 ·rw [br.set H,hinv.jd k];constructor
  ·rintro (h|h|⟨b,h⟩)
   ·exact .inr ⟨w.heap.size,by rw [h]; simp⟩
   ·exact .inl h
   ·exact .inr ⟨b,by simp [h]⟩
  ·rintro (h|⟨b,h⟩)
   ·exact .inr (.inl h)
   ·rcases List.mem_cons.1 h with h|h
    ·exact .inl (by simpa using congrArg Prod.fst h)
    ·exact .inr (.inr ⟨b,h⟩)
 ·have h1:o.dst≠some t:=ht i w.heap.size o (by simp) f;rw [vY a o.dst _ t h1];exact hinv.agree t fun m b g hm=>ht m b g (by simp [hm])
 ·obtain⟨k,h1,aq,au⟩:=hinv.tm t;exact⟨k,h1,aq,au.mono O.toLe (Ext.refl _)⟩
 ·rcases List.mem_cons.1 hm with h|h
  ·simp only [Prod.mk.injEq] at h;obtain⟨rfl,rfl⟩:=h;exact⟨L.size,by simp,fun c=>Nat.lt_irrefl _ (Own.lt s c)⟩
  ·obtain⟨g1,g2,g3⟩:=B m b h;exact⟨g1,by simp; omega,g3⟩
 ·refine List.pairwise_cons.2 ⟨fun x R=>⟨fun c=>I x.2 (by have c:i=x.1:=c; rw [c]; exact R),fun c=>?_⟩,hinv.nd⟩;have:=(B x.1 x.2 R).2.1;simp only at c;omega
 ·rcases List.mem_cons.1 hm with h|h
  ·simp only [Prod.mk.injEq] at h;obtain⟨rfl,rfl⟩:=h;refine⟨X,F,E,o,z,d,cs,e,f,l,hv,ab,ad,heap_alloc_new w _,s.1.fresh _ (Nat.le_refl _), ?_⟩;rw [l]; exact E_ a d _ al
  ·obtain⟨g1,g2,g0,g,av,C,aw,ax,g3,g4,g5,g6,g7,g8,g9,g10⟩:=hinv.p9 m b h;obtain⟨aG,ay,aH⟩:=B m b h;refine⟨g1,g2,g0,g,av,C,aw,ax,g3,g4,g5,g6,g7,by rw [pZ ay]; exact g8,g9, ?_⟩;rw [vY a o.dst _ C (by rw [l]; intro c; simp only [Option.some.injEq] at c; exact am m b g C h g3 g4 c.symm)];exact g10
theorem Fa:∀{l:List (Nat×Nat)},l.Pairwise (fun x y=>x.1≠y.1/\x.2≠y.2)->∀{x y},x∈l->y∈l->x.1≠y.1->x.2≠y.2
 | [],_,_,_,b,_,_=>by simp at b
 | a::l,h,x,y,b,j,hn=>by
  obtain⟨h1,k⟩:=List.pairwise_cons.1 h;rcases List.mem_cons.1 b with ex|f<;>rcases List.mem_cons.1 j with g|i
  ·subst ex g; exact(hn rfl).elim
  ·subst ex; exact(h1 y i).2
  ·subst g; exact(h1 x f).2.symm
  ·exact Fa k f i hn
include dX hS in
theorem Mj {cH bh:Array Bool}{lim:List (Nat×Nat)}{tv:Nat->Value}{j:J}{w:World}{jl:List Nat}{a:Act}(hinv:Inv ops S fx v n j0 w0 O0 cH bh lim tv j w jl a){m b:Nat}
  (hm:(m,b)∈lim) (s:∀p,vo ops fx p m->br bh p):∃P,Inv ops S fx v n j0 w0 O0 cH (bh.setIfInBounds m true) (lim.filter fun x=>x.1 != m) P j w (jl++[b]) a:=by
 obtain⟨C,Q,_,o,z,d,cs,e,q,R,hv,U,W,X,Y,Z⟩:=hinv.p9 m b hm;have aa:=p_ q;have l:m<bh.size:=by rw [hinv.ue]; exact aa
 obtain⟨kl,kh,ab,ad,I,ae,r,E,K⟩:=hinv.st;obtain⟨aj,ak,L⟩:=K m b hm;obtain⟨M,af,_⟩:=(hS m o q).2.2.2.2.2 Q;have N:=vW dX hS q C hinv.closed s ab I (by rw [M]; simp);have u:Ext jl (jl++[b]):=fun i x u=>by rw [List.getElem?_append_left (List.getElem?_eq_some_iff.1 u).1]; exact u
 have F:∀m' f,(m',f)∈lim.filter (fun x=>x.1 != m)->(m',f)∈lim/\m'≠m:=fun m' f h=>by
  rw [List.mem_filter] at h; exact⟨h.1,by simpa using h.2⟩
 refine⟨fun t=>if o.dst=some t then .pointer (some ⟨b,0,none⟩) else tv t,hinv.mJ,by simp [hinv.ue],fun k=>?_,hinv.oo,vX l hinv.closed s,hinv.defers,hinv.rC,fun t ht=>?_,
  E8 dX hS l q C hinv.closed s (Le.refl j w) u (cv:=.pointer (some ⟨b,0,none⟩)) ?_ (fun t e=>by simp [e]) (fun t e=>by simp [e]) hinv.tm,
  ⟨m+1,kh,by omega,ad, ?_,fun p G hw=>?_, ?_,{ E with own:=fun f B g=>?_ },fun m' f h=>?_⟩,hinv.nd.filter _,fun m' f h=>?_⟩
 ·rw [br.set l,hinv.jd k];constructor
  ·rintro (h|⟨f,h⟩)
   ·exact .inl (.inr h)
   ·by_cases e:k=m
    ·exact .inl (.inl e)
    ·exact .inr ⟨f,by rw [List.mem_filter]; exact⟨h,by simpa using e⟩⟩
  ·rintro ((h|h)|⟨f,h⟩)
   ·exact .inr ⟨b,h▸hm⟩
   ·exact .inl h
   ·exact .inr ⟨f,(F k f h).1⟩
 ·by_cases e:o.dst=some t
  ·rw [if_pos e];rw [R] at e;simp only [Option.some.injEq] at e;subst e;exact Z
  ·rw [if_neg e];refine hinv.agree t fun m' f o' ag g=>?_;by_cases c:m'=m
   ·subst c; rw [q] at g; simp only [Option.some.injEq] at g; subst g; exact e
   ·exact ht m' f o' (by rw [List.mem_filter]; exact⟨ag,by simpa using c⟩) g
 ·rw [hv];refine⟨b, ?_,rfl⟩;rw [<- N,r.2.each.length]; simp
 ·have:=zj dX l q C hinv.closed s (·.wl) E9 I;rw [M] at this;exact this
 ·rw [br.set l,<- ae p G hw];refine⟨fun c=>c.elim (fun e=>?_) id,.inr⟩;subst e; rw [af] at hw; cases hw
 ·rw [U,<- N];refine⟨r.1,r.2.each.append (.cons ⟨cs,e,X,W j w,Y⟩ .nil), ?_,fun f B g=>?_⟩
  ·rw [List.nodup_append];refine⟨r.2.nodup,by simp,fun x ai y O=>?_⟩;simp at O; subst O;intro c; subst c; exact L (.inl ai)
  ·rcases List.mem_append.1 B with h|h
   ·exact r.2.apart f h g
   ·simp at h; subst h;rcases g with h|h
    ·simp at h
    ·exact L (.inr h)
 ·rcases g with h|h
  ·rcases List.mem_append.1 h with h|h
   ·exact E.own f B (.inl h)
   ·simp at h; omega
  ·exact E.own f B (.inr h)
 ·obtain⟨h1,H⟩:=F m' f h;obtain⟨g1,g2,g3⟩:=K m' f h1;refine⟨g1,g2,fun c=>?_⟩;rcases c with c|c
  ·rcases List.mem_append.1 c with c|c
   ·exact g3 (.inl c)
   ·simp at c;exact Fa hinv.nd h1 hm H c
  ·exact g3 (.inr c)
 ·obtain⟨h1,H⟩:=F m' f h;obtain⟨g1,g2,g0,g3⟩:=hinv.p9 m' f h1;exact⟨fun c=>((br.set l).1 c).elim H g1,g2,fun p G=>(br.set l).2 (.inr (g0 p G)),g3⟩
include dX hS in
theorem settle {j:J}{w:World}{a:Act}{cH:Array Bool}{C:Prop}:∀(N:Nat){bh:Array Bool}{lim:List (Nat×Nat)}{tv:Nat->Value}{jl:List Nat},lim.length<=N->Inv ops S fx v n j0 w0 O0 cH bh lim tv j w jl a ->
  (∀bh lim tv jl,Inv ops S fx v n j0 w0 O0 cH bh lim tv j w jl a->(∀m b,(m,b)∈lim->∃p,ol ops fx p m/\¬br bh p)->C)->C:=by
 intro N;induction N with
 | zero =>
  intro bh lim tv jl g hinv hC;have:lim=[]:=List.eq_nil_of_length_eq_zero (by omega);subst this;exact hC _ _ _ _ hinv fun m b h=>by simp at h
 | succ N i =>
  intro bh lim tv jl g hinv hC;by_cases c:∃m b,(m,b)∈lim/\∀p,ol ops fx p m->br bh p
  ·obtain⟨m,b,hm,f⟩:=c;obtain⟨k,h⟩:=Mj dX hS hinv hm fun p h=>h.elim ((hinv.p9 m b hm).2.2.1 p) (f p);refine i ?_ h hC;have:(lim.filter fun x=>x.1 != m).length<lim.length:=List.length_filter_lt_length_iff_exists.2 ⟨(m,b),hm,by simp⟩;omega
  ·refine hC _ _ _ _ hinv fun m b hm=>Classical.byContradiction fun c'=>c ⟨m,b,hm,fun p f=>Classical.byContradiction fun c2=>c' ⟨p,f,c2⟩⟩
theorem Mk {cH bh:Array Bool}{lim:List (Nat×Nat)}{tv:Nat->Value}{j:J}{w:World}{jl:List Nat}{a:Act}(hinv:Inv ops S fx v n j0 w0 O0 cH bh lim tv j w jl a)
  (f:∀m b,(m,b)∈lim->∃p,ol ops fx p m/\¬br bh p){i:Nat}(g:∀p,ord ops p i->br cH p):∀m b,(m,b)∈lim->ord ops m i->False:=by
 intro m;induction m using Nat.strongRecOn with
 | _ m k =>
  intro b hm l;obtain⟨p,o,hn⟩:=f m b hm;obtain⟨aY,_,_,_,_,_,_,q⟩:=o;have h1:=q i l;rcases (hinv.jd p).1 (g p h1) with h|⟨r,h⟩
  ·exact hn h
  ·exact k p aY r h h1
theorem Ml {cH bh:Array Bool}{lim:List (Nat×Nat)}{tv:Nat->Value}{j:J}{w:World}{jl:List Nat}{a:Act}(hinv:Inv ops S fx v n j0 w0 O0 cH bh lim tv j w jl a)
  (f:∀m b,(m,b)∈lim->∃p,ol ops fx p m/\¬br bh p) (g:∀p,p<ops.size->br cH p):lim=[]:=by
 have:∀m b,(m,b)∈lim->False:=by
  intro m;induction m using Nat.strongRecOn with
  | _ m i =>
   intro b hm;obtain⟨p,k,hn⟩:=f m b hm;obtain⟨aY,_,oi,ok,l,_⟩:=k;rcases (hinv.jd p).1 (g p (p_ l)) with h|⟨o,h⟩
   ·exact hn h
   ·exact i p aY o h
 cases lim with
 | nil=>rfl
 | cons x r=>exact(this x.1 x.2 (by simp)).elim
include aY in
theorem Mm {bh:Array Bool}(i:bh.size=ops.size) (h:Region.ready .any ops bh=[]):∀p,p<ops.size->br bh p:=by
 intro p;induction p using Nat.strongRecOn with
 | _ p f =>
  intro b;rcases hr:bh.getD p false with _|_
  ·have:p∈Region.ready .any ops bh:=by
    simp only [Region.ready,List.mem_filter,List.mem_range,Bool.and_eq_true,Bool.not_eq_true'];refine⟨b, ?_, ?_⟩
    ·rw [Array.getD_eq_getD_getElem?,Array.getElem?_eq_getElem (by omega)] at hr ⊢
     simpa using hr
    ·rw [Array.getElem?_eq_getElem b];simp only [Option.map_some,Option.getD_some,Array.all_eq_true'];intro e he;cases g:Region.binds .any e with
     | false=>simp
     | true =>
      have hl:=aY p _ (kR b) e (by simpa using he) g;have:=f e.on hl (by omega)
      simpa [br] using this
   rw [h] at this; simp at this
  ·exact hr
include aY dX hS in
theorem Mn {Q:Exit->Act->World->Prop}(R:∀j w jl a,dB j w jl (S ops.size) a->bw j0 w0 O0 j w (Own j (S ops.size).h jl)->(S ops.size).n=n->Q .normal a w) (hn:∀k,k<=ops.size->(S k).n=n) :
  ∀(fuel:Nat) (cH bh:Array Bool) (lim:List (Nat×Nat)) (tv:Nat->Value) (j:J) (w:World) (jl:List Nat) (a:Act),((List.range ops.size).filter fun i=>!cH.getD i false).length<=fuel ->
   Inv ops S fx v n j0 w0 O0 cH bh lim tv j w jl a->(∀m b,(m,b)∈lim->∃p,ol ops fx p m/\¬br bh p)->wpAny P .any ops Q fuel cH a w:=by
 have fin:∀(cH bh:Array Bool) (lim:List (Nat×Nat)) (tv:Nat->Value) (j:J) (w:World) (jl:List Nat) (a:Act),Inv ops S fx v n j0 w0 O0 cH bh lim tv j w jl a ->
   (∀m b,(m,b)∈lim->∃p,ol ops fx p m/\¬br bh p)->(∀p,p<ops.size->br cH p)->Q .normal a w:=by
  intro cH bh lim tv j w jl a hinv q I;have U:=Ml hinv q I;subst U;have r:∀p,p<ops.size->br bh p:=fun p f=>((hinv.jd p).1 (I p f)).elim id fun⟨b,h⟩=>by simp at h
  obtain⟨kl,kh,W,X,Y,Z,aa,ab,_⟩:=hinv.st;have ad:(S kl).ls=(S ops.size).ls:=rD (fun k=>(S k).ls) (fun p=>(fx p).wl=true) (br bh) (fun k hk hn=>(hS k _ (kR hk)).2.2.2.1 (by simpa using hn)) W (Nat.le_refl _) Y
   fun p f _=>⟨fun _=>f,fun _=>r p f⟩
  have K:(S kh).h=(S ops.size).h:=rD (fun k=>(S k).h) (fun p=>(fx p).wh=true) (br bh) (fun k hk hn=>(hS k _ (kR hk)).2.2.2.2.1 (by simpa using hn)) X (Nat.le_refl _) Z
   fun p f _=>⟨fun _=>f,fun _=>r p f⟩
  refine R j w jl a ⟨hinv.defers,by rw [hn _ (Nat.le_refl _)]; exact hinv.rC,fun t=>?_,by rw [<- ad,<- K]; exact aa⟩ (by rw [<- K]; exact ab) (hn _ (Nat.le_refl _));obtain⟨k,hk,hw,hv⟩:=hinv.tm t;have:get (S k).ts t=get (S ops.size).ts t :=
   rD (fun k=>get (S k).ts t) (fun p=>∃o,ops[p]?=some o/\o.dst=some t) (br bh) (E7 hS t) hk (Nat.le_refl _) (fun p _ ⟨op,h1,g⟩=>hw p op h1 g) fun p f _ =>
    ⟨fun _=>f,fun _=>r p f⟩
  rw [<- this,hinv.agree t fun m b o h=>by simp at h]; exact hv
 intro fuel;induction fuel with
 | zero =>
  intro cH bh lim tv j w jl a ae hinv q;have r:∀p,p<ops.size->br cH p:=by
   intro p f;rcases hr:cH.getD p false with _|_
   ·have:p∈(List.range ops.size).filter fun i=>!cH.getD i false:=by simp only [List.mem_filter,List.mem_range]; exact⟨f,by rw [hr]; rfl⟩
    have:=List.length_pos_of_mem this; omega
   ·exact hr
  refine⟨?_,fin cH bh lim tv j w jl a hinv q r⟩;rw [List.eq_nil_iff_forall_not_mem];intro i hi;obtain⟨_,_,u,l,_⟩:=E6 hi hinv.mJ;exact l (r i u)
 | succ fuel L =>
  intro cH bh lim tv j w jl a ae hinv q;refine⟨fun hr=>fin cH bh lim tv j w jl a hinv q (Mm aY hinv.mJ hr),fun i hi=>?_⟩;obtain⟨o,x,u,l,y⟩:=E6 hi hinv.mJ;have M:i<cH.size:=by rw [hinv.mJ]; exact u
  have N:((List.range ops.size).filter fun p=>!(cH.setIfInBounds i true).getD p false).length<=fuel:=by
   have ag:((List.range ops.size).filter fun p=>!(cH.setIfInBounds i true).getD p false).length<((List.range ops.size).filter fun p=>!cH.getD p false).length:=by
    have af:((List.range ops.size).filter fun p=>!(cH.setIfInBounds i true).getD p false)=((List.range ops.size).filter fun p=>!cH.getD p false).filter (fun p=>p != i):=by
     rw [List.filter_filter];refine List.filter_congr fun p _=>?_;by_cases z:p=i
     ·subst z;have s:br (cH.setIfInBounds p true) p:=(br.set M).2 (.inl rfl);unfold br at s;rw [s]; simp
     ·have s:br (cH.setIfInBounds i true) p↔br cH p:=by rw [br.set M]; simp [z]
      unfold br at s;rcases h1:(cH.setIfInBounds i true).getD p false with _|_<;>rcases g:cH.getD p false with _|_<;>rw [h1,g] at s<;>simp at s<;>simp [z]
    rw [af];refine List.length_filter_lt_length_iff_exists.2 ⟨i, ?_,by simp⟩;simp only [List.mem_filter,List.mem_range];refine⟨u, ?_⟩;unfold br at l;simp at l ⊢; exact l
   omega
  have O:∀p,ord ops p i->br cH p:=fun p f=>zh aY x hinv.oo y f;have f:∀p,ord ops p i->br bh p:=fun p f=>((hinv.jd p).1 (O p f)).elim id fun⟨b,h⟩=>(Mk hinv q O p b h f).elim;by_cases c:∀p,ol ops fx p i->br bh p
  ·refine Mh aY dX hS hinv x l y (fun p h=>h.elim (f p) (c p)) fun ai j' w' aj B C=>?_;exact settle dX hS _ (Nat.le_refl _) C fun E F G H h1 g=>L _ E F G j' w' H B N h1 g
  ·have:(fx i).nu=true:=Classical.byContradiction fun c'=>c fun p f=>(c' f.2.1).elim;refine Mi aY dX hS hinv x l y f this fun w' B b C=>?_;exact settle dX hS _ (Nat.le_refl _) C fun E F G H h1 g=>L _ E F G j w' H B N h1 g
end
theorem au.wp {P:Program}(hm:P.follows .mixedOrders=true){id:Nat}{l:List Oper}{n:Nat}{Q:St->Prop}{σ:St}(z:au P l.toArray n l [] Q σ) (u:σ.n=n)
  {j:J}{w:World}{jl:List Nat}{a:Act}(g:dB j w jl σ a){x:Exit->Act->World->Prop}
  (hk:∀s j' w' q r,Q s->dB j' w' q s r->bw j w (Own j σ.h jl) j' w' (Own j' s.h q)->x .normal r w'):(Code.region id l.toArray true).wp P x a w:=by
 obtain⟨S,fx,v,h0,h1,B,C⟩:=z;have y:=Md (ops:=l.toArray) (fx:=fx) (by simpa using B);have hS:∀k o,l.toArray[k]?=some o->_:=fun k o hk=>h1 k o (by simpa using hk);have hn:∀k,k<=l.toArray.size->(S k).n=n:=by
  intro k;induction k with
  | zero=>intro _; rw [h0,u]
  | succ k E=>intro hk; rw [(hS k _ (kR (by omega))).2.1]; exact E (by omega)
 refine wp_region_any hm ?_;refine Mn (n:=n) (S:=S) (fx:=fx) (v:=v) (j0:=j) (w0:=w) (O0:=Own j σ.h jl) y.1 y.2 hS (fun j' w' q r F he _=>hk (S l.toArray.size) j' w' q r (by simpa using C) F he) hn _ _ (Array.replicate l.toArray.size false) [] (fun t=>a.tmps.getD t undef) j w.drew jl a ?_ ?_ (fun m b h=>by simp at h)
 ·have:=List.length_filter_le (fun i=>!(Array.replicate l.toArray.size false).getD i false) (List.range l.toArray.size)
  simpa using this
 ·have f:∀p,¬br (Array.replicate l.toArray.size false) p:=by
   intro p h;unfold br at h;rw [Array.getD_eq_getD_getElem?,Array.getElem?_replicate] at h
   split at h<;>simp at h
  refine⟨by simp,by simp,fun i=>⟨fun h=>(f i h).elim,fun h=>h.elim (fun h=>(f i h).elim) fun⟨b,h⟩=>by simp at h⟩,fun k h=>(f k h).elim,fun k h=>(f k h).elim,g.defers,by rw [g.size,u],fun _ _=>rfl,
   fun t=>⟨0,Nat.zero_le _,fun p _ _ _=>⟨fun h=>(f p h).elim,fun h=>by omega⟩, ?_⟩,
   ⟨0,0,Nat.zero_le _,Nat.zero_le _,fun p _ _=>⟨fun h=>(f p h).elim,fun h=>by omega⟩,fun p _ _=>⟨fun h=>(f p h).elim,fun h=>by omega⟩, ?_, ?_,fun m b h=>by simp at h⟩,.nil,fun m b h=>by simp at h⟩
  ·rw [h0]; exact(g.tmps t).mono (bw.drew j w (Own j σ.h jl)).toLe (Ext.refl _)
  ·rw [h0]; exact g.hl.drew
  ·rw [h0]; exact bw.drew _ _ _
end Go.Ab
