import Derived.WalkKit
import Derived.Orders
import Derived.Laws.Rows
set_option maxRecDepth 100000
set_option maxHeartbeats 2000000
set_option linter.unusedVariables false
set_option linter.unusedSimpArgs false
/-
 The abstract reading of memory: plain data D,the ghost map J,when a Go value reads as a datum,and how a world may evolve. No program text.
-/
namespace Go.Ab
open Go Go.RowKit

inductive D where
 | bool (b:Bool)
 | int (k:IntKind) (n:Int)
 | str (s:List UInt8)
 | slice (k:Nat) (tok:Option Nat) (nil:Bool) (rows:List (List D))
 | arr (k id:Nat) (nl:Bool) (len:Nat)
 | aptr (id m off:Nat)
 | nilptr
 | ptr (id off:Nat)
 | view (cells:List D)
 | nilmap
 | map (id:Nat)
 | nilFunc
 | func (f:FuncId) (caps:List D)
 | yield (l:Nat)
 | fany
 | nilIface
 | iface (t:TypeId) (x:D)
 deriving Inhabited

inductive A where
 | d (x:D)
 | agg (xs:List D)
 deriving Inhabited

inductive V where
 | any
 | a (x:A)
 | lptr (i off:Nat)
 | tup (xs:List A)
 | gd (c:Bool) (x:A)
 | gdl (c:Bool) (i off:Nat)
 | full (k:Nat) (rows:List (List D))
 | gdf (c:Bool) (k:Nat) (rows:List (List D))
 deriving Inhabited

inductive Obj where
 | cells (xs:List D)
 | map (es:List (D×A))
 | tok (k m:Nat) (E:Option TypeId:=none)
 | arr (k:Nat) (rows:List (List D))
 | fix (b:Nat) (o:Go.Obj)
 | tcells (T:TypeId) (xs:List D)
 | fixt (b:Nat) (o:Go.Obj)

abbrev Heap:=Nat->Option Obj
def Heap.set (h:Heap) (i:Nat) (o:Option Obj):Heap:=fun n=>if n=i then o else h n

structure Tk where
 blk:Option (Nat×Nat)
 m:Nat

structure J where
 out:Nat->Nat
 F:Nat->Nat
 tok:Nat->Option Tk
 next:Nat

inductive All2 {α β:Type}(R:α->β->Prop):List α->List β->Prop where
 | nil:All2 R [] []
 | cons {a b l m} (h:R a b) (t:All2 R l m):All2 R (a::l) (b::m)

theorem All2.imp {α β:Type}{R S:α->β->Prop}(h:∀a b,R a b->S a b){l:List α}{m:List β}(hl:All2 R l m):All2 S l m:=by
 induction hl with
 | nil=>exact .nil
 | cons x _ ih=>exact .cons (h _ _ x) ih
theorem All2.length {α β:Type}{R:α->β->Prop}{l:List α}{m:List β}(h:All2 R l m):l.length=m.length:=by
 induction h with
 | nil=>rfl
 | cons _ _ ih=>simp [ih]
theorem All2.get {α β:Type}{R:α->β->Prop}{l:List α}{m:List β}(h:All2 R l m):∀{i:Nat}{x:α},l[i]?=some x->∃y,m[i]?=some y/\R x y:=by
 induction h with
 | nil=>intro i x hx; simp at hx
 | cons hh _ ih =>
  intro i x hx;cases i with
  | zero=>simp at hx; subst hx; exact⟨_,rfl,hh⟩
  | succ i=>simp at hx; simpa using ih hx
theorem All2.get' {α β:Type}{R:α->β->Prop}{l:List α}{m:List β}(h:All2 R l m):∀{i:Nat}{y:β},m[i]?=some y->∃x,l[i]?=some x/\R x y:=by
 induction h with
 | nil=>intro i x hx; simp at hx
 | cons hh _ ih =>
  intro i x hx;cases i with
  | zero=>simp at hx; subst hx; exact⟨_,rfl,hh⟩
  | succ i=>simp at hx; simpa using ih hx
theorem All2.of_get {α β:Type}{R:α->β->Prop}:∀{l:List α}{m:List β},l.length=m.length->(∀(i:Nat) x y,l[i]?=some x->m[i]?=some y->R x y)->All2 R l m
 | [],[],_,_=>.nil
 | [],_::_,h,_=>by simp at h
 | _::_,[],h,_=>by simp at h
 | a::l,b::m,h,hr=>.cons (hr 0 a b rfl rfl) (All2.of_get (by simpa using h) fun i x y hx hy=>hr (i+1) x y (by simpa using hx) (by simpa using hy))
theorem All2.append {α β:Type}{R:α->β->Prop}{l l':List α}{m m':List β}(h:All2 R l m) (h':All2 R l' m'):All2 R (l++l') (m++m'):=by
 induction h with
 | nil=>exact h'
 | cons x _ ih=>exact .cons x ih
theorem All2.set {α β:Type}{R:α->β->Prop}{l:List α}{m:List β}(h:All2 R l m){a:α}{b:β}(hr:R a b) (i:Nat):All2 R (l.set i a) (m.set i b):=by
 induction h generalizing i with
 | nil=>exact .nil
 | cons x t ih =>
  cases i with
  | zero=>exact .cons hr t
  | succ i=>exact .cons x (ih i)
theorem All2.take {α β:Type}{R:α->β->Prop}{l:List α}{m:List β}(h:All2 R l m) (n:Nat):All2 R (l.take n) (m.take n):=by
 induction h generalizing n with
 | nil=>simp; exact .nil
 | cons x t ih =>
  cases n with
  | zero=>exact .nil
  | succ n=>exact .cons x (ih n)
theorem All2.drop {α β:Type}{R:α->β->Prop}{l:List α}{m:List β}(h:All2 R l m) (n:Nat):All2 R (l.drop n) (m.drop n):=by
 induction h generalizing n with
 | nil=>simp; exact .nil
 | cons x t ih =>
  cases n with
  | zero=>exact .cons x t
  | succ n=>exact ih n

def maxN:Nat:=140737488355328
def maxS:Nat:=4611686018427387904

def TokOk (j:J) (tok:Option Nat) (n:Nat) (a:Addr) (cap:Nat):Prop :=
 ∀t,tok=some t->t<j.next/\∀k,j.tok t=some k->n<=k.m/\(n=k.m->(k.blk=none/\cap=n)\/∃b,k.blk=some (b,cap)/\a=⟨b,0,none⟩)

def ArrOk (j:J) (id:Nat) (nl:Bool) (len:Nat) (a:Option Addr) (cap:Nat):Prop :=
 ∀tk,j.tok id=some tk->len<=tk.m/\(len=tk.m->(tk.blk=none/\nl=a.isNone/\cap=0)\/∃b,tk.blk=some (b,cap)/\a=some ⟨b,0,none⟩/\nl=false)

def At (j:J) (w:World) (a:Addr) (n:Nat) (cv:Nat->Value):Prop :=
 a.spot=none/\∀i,i<n->a.off+i<j.F a.block/\w.cell? ⟨a.block,a.off+i,none⟩=some (cv i)

def AtS (j:J) (w:World) (a:Addr) (rows:List (List D)) (cv:Nat->Value):Prop :=
 (rows=[]\/a.spot=none)/\∀i,i<rows.flatten.length->a.off+i<j.F a.block/\w.cell? ⟨a.block,a.off+i,none⟩=some (cv i)

inductive DRel (j:J) (w:World):D->Value->Prop
 | bool (b:Bool):DRel j w (.bool b) (.bool b)
 | int (k:IntKind) (n:Int):DRel j w (.int k n) (.int k n)
 | str (s:List UInt8) (h:s.length<=maxS):DRel j w (.str s) (.string ⟨s.toArray⟩)
 | snil (k:Nat) (tok:Option Nat) (ht:∀t,tok=some t->t<j.next):DRel j w (.slice k tok true []) (.slice none 0 0)
 | slice (k:Nat) (tok:Option Nat) (rows:List (List D)) (a:Addr) (cap:Nat) (cv:Nat->Value)
   (hk:∀r∈rows,r.length=k) (hn:rows.length<=maxN) (hc:rows.length<=cap)
   (hat:AtS j w a rows cv) (hr:∀i (h:i<rows.flatten.length),DRel j w rows.flatten[i] (cv i))
   (ht:TokOk j tok rows.length a cap):DRel j w (.slice k tok false rows) (.slice (some a) rows.length cap)
 | arr (k id:Nat) (nl:Bool) (len:Nat) (a:Option Addr) (cap:Nat) (hid:id<j.next) (hv:ArrOk j id nl len a cap):DRel j w (.arr k id nl len) (.slice a len cap)
 | aptr (id m off b:Nat) (hid:id<j.next) (hv:∀tk,j.tok id=some tk->m<=tk.m/\(m=tk.m->∃c,tk.blk=some (b,c))):DRel j w (.aptr id m off) (.pointer (some ⟨b,off,none⟩))
 | nilptr:DRel j w .nilptr (.pointer none)
 | ptr (id off:Nat) (h:id<j.next):DRel j w (.ptr id off) (.pointer (some ⟨j.out id,off,none⟩))
 | view (cells:List D) (a:Addr) (cv:Nat->Value) (hat:At j w a cells.length cv) (hr:∀i (h:i<cells.length),DRel j w cells[i] (cv i)) :
   DRel j w (.view cells) (.pointer (some a))
 | nilmap:DRel j w .nilmap (.map none)
 | map (id b:Nat) (hid:id<j.next) (hv:∀tk,j.tok id=some tk->1<=tk.m/\(tk.m=1->∃c,tk.blk=some (b,c))):DRel j w (.map id) (.map (some b))
 | nilFunc:DRel j w .nilFunc .nilFunc
 | func (f:FuncId) (caps:List D) (cvs:List Value) (hl:caps.length=cvs.length) (hr:∀i (h:i<caps.length) (h':i<cvs.length),DRel j w caps[i] cvs[i]) :
   DRel j w (.func f caps) (.func (.func f) #[] cvs.toArray)
 | yield (l:Nat):DRel j w (.yield l) (.func (.yield l) #[] #[])
 | fany (t:Fn) (b c:Array Value):DRel j w .fany (.func t b c)
 | nilIface:DRel j w .nilIface .nilIface
 | iface (t:TypeId) (x:D) (v:Value) (h:DRel j w x v):DRel j w (.iface t x) (.iface t v)

def ARel (j:J) (w:World):A->Value->Prop
 | .d x,v=>DRel j w x v
 | .agg xs,v=>∃cs:List Value,v=.agg cs.toArray/\All2 (DRel j w) xs cs

def VRel (j:J) (w:World) (jl:List Nat):V->Value->Prop
 | .any,_=>True
 | .a x,v=>ARel j w x v
 | .lptr i off,v=>∃b,jl[i]?=some b/\v=.pointer (some ⟨b,off,none⟩)
 | .tup xs,v=>∃cs:List Value,v=.tuple cs.toArray/\All2 (ARel j w) xs cs
 | .gd c x,v=>(c=true->ARel j w x v)/\(c=false->v=.tuple #[])
 | .gdl c i off,v=>(c=true->∃b,jl[i]?=some b/\v=.pointer (some ⟨b,off,none⟩))/\(c=false->v=.tuple #[])
 | .gdf c k rows,v=>(c=true->DRel j w (.slice k none false rows) v/\∃a,v=.slice (some a) rows.length rows.length)/\(c=false->v=.tuple #[])
 | .full k rows,v=>DRel j w (.slice k none false rows) v/\∃a,v=.slice (some a) rows.length rows.length

structure Le (j:J) (w:World) (j':J) (w':World):Prop where
 next:j.next<=j'.next
 out:∀id,id<j.next->j'.out id=j.out id
 F:∀b,j.F b<=j'.F b
 data:∀b o,o<j.F b->w'.cell? ⟨b,o,none⟩=w.cell? ⟨b,o,none⟩
 tok:∀t,t<j.next->j'.tok t=j.tok t\/∃k k',j.tok t=some k/\j'.tok t=some k'/\k.m<k'.m

theorem Le.refl (j:J) (w:World):Le j w j w:=⟨Nat.le_refl _,fun _ _=>rfl,fun _=>Nat.le_refl _,fun _ _ _=>rfl,fun _ _=>.inl rfl⟩
theorem Le.trans {j j1 j2:J}{w w1 w2:World}(h:Le j w j1 w1) (h':Le j1 w1 j2 w2):Le j w j2 w2:=by
 refine⟨Nat.le_trans h.next h'.next,fun id hi=>(h'.out id (Nat.lt_of_lt_of_le hi h.next)).trans (h.out id hi),fun b=>Nat.le_trans (h.F b) (h'.F b),
  fun b o ho=>(h'.data b o (Nat.lt_of_lt_of_le ho (h.F b))).trans (h.data b o ho),fun t ht=>?_⟩
 rcases h'.tok t (Nat.lt_of_lt_of_le ht h.next) with e|⟨k,k',e,e',hlt⟩
 ·rw [e]; exact h.tok t ht
 ·rcases h.tok t ht with f|⟨k0,k0',f,f',hlt'⟩
  ·exact .inr ⟨k,k',f▸e,e',hlt⟩
  ·rw [f'] at e;simp only [Option.some.injEq] at e;subst e;exact .inr ⟨_,_,f,e',Nat.lt_trans hlt' hlt⟩

theorem TokOk.mono {j j':J}{w w':World}(hle:Le j w j' w'){tok:Option Nat}{n:Nat}{a:Addr}{cap:Nat}(h:TokOk j tok n a cap):TokOk j' tok n a cap:=by
 intro t ht;obtain⟨h1,h2⟩:=h t ht;refine⟨Nat.lt_of_lt_of_le h1 hle.next,fun k hk=>?_⟩;rcases hle.tok t h1 with e|⟨k0,k',e,e',hlt⟩
 ·rw [e] at hk; exact h2 k hk
 ·rw [e'] at hk;simp only [Option.some.injEq] at hk;subst hk;have:=(h2 _ e).1;exact⟨by omega,fun h=>by omega⟩

theorem ArrOk.mono {j j':J}{w w':World}(hle:Le j w j' w'){id:Nat}{nl:Bool}{len:Nat}{a:Option Addr}{cap:Nat}(hid:id<j.next) (h:ArrOk j id nl len a cap):ArrOk j' id nl len a cap:=by
 intro tk hk;rcases hle.tok id hid with e|⟨k0,k',e,e',hlt⟩
 ·rw [e] at hk; exact h tk hk
 ·rw [e'] at hk;simp only [Option.some.injEq] at hk;subst hk;have:=(h _ e).1;exact⟨by omega,fun h=>by omega⟩

theorem At.mono {j j':J}{w w':World}(hle:Le j w j' w'){a:Addr}{n:Nat}{cv:Nat->Value}(h:At j w a n cv):At j' w' a n cv :=
 ⟨h.1,fun i hi=>⟨Nat.lt_of_lt_of_le (h.2 i hi).1 (hle.F _),(hle.data _ _ (h.2 i hi).1).trans (h.2 i hi).2⟩⟩

theorem AtS.mono {j j':J}{w w':World}(hle:Le j w j' w'){a:Addr}{rows:List (List D)}{cv:Nat->Value}(h:AtS j w a rows cv):AtS j' w' a rows cv :=
 ⟨h.1,fun i hi=>⟨Nat.lt_of_lt_of_le (h.2 i hi).1 (hle.F _),(hle.data _ _ (h.2 i hi).1).trans (h.2 i hi).2⟩⟩

theorem DRel.mono {j j':J}{w w':World}(hle:Le j w j' w'){x:D}{v:Value}(h:DRel j w x v):DRel j' w' x v:=by
 induction h with
 | bool b=>exact .bool b
 | int k n=>exact .int k n
 | str s h=>exact .str s h
 | snil k tok ht=>exact .snil k tok fun t h=>Nat.lt_of_lt_of_le (ht t h) hle.next
 | slice k tok rows a cap cv hk hn hc hat hr ht ih=>exact .slice k tok rows a cap cv hk hn hc (hat.mono hle) ih (ht.mono hle)
 | arr k id nl len a cap hid hv=>exact .arr k id nl len a cap (Nat.lt_of_lt_of_le hid hle.next) (hv.mono hle hid)
 | aptr id m off b hid hv =>
  refine .aptr id m off b (Nat.lt_of_lt_of_le hid hle.next) fun tk hk=>?_;rcases hle.tok id hid with e|⟨k0,k',e,e',hlt⟩
  ·rw [e] at hk; exact hv tk hk
  ·rw [e'] at hk;simp only [Option.some.injEq] at hk;subst hk;have:=(hv _ e).1;exact⟨by omega,fun h=>by omega⟩
 | nilptr=>exact .nilptr
 | ptr id off h =>
  rw [<- hle.out id h];exact .ptr id off (Nat.lt_of_lt_of_le h hle.next)
 | view cells a cv hat hr ih=>exact .view cells a cv (hat.mono hle) ih
 | nilmap=>exact .nilmap
 | map id b hid hv =>
  refine .map id b (Nat.lt_of_lt_of_le hid hle.next) fun tk hk=>?_;rcases hle.tok id hid with e|⟨k0,k',e,e',hlt⟩
  ·rw [e] at hk; exact hv tk hk
  ·rw [e'] at hk;simp only [Option.some.injEq] at hk;subst hk;have:=(hv _ e).1;exact⟨by omega,fun h=>by omega⟩
 | nilFunc=>exact .nilFunc
 | func f caps cvs hl hr ih=>exact .func f caps cvs hl ih
 | yield l=>exact .yield l
 | fany t b c=>exact .fany t b c
 | nilIface=>exact .nilIface
 | iface t x v h ih=>exact .iface t x v ih

theorem ARel.mono {j j':J}{w w':World}(hle:Le j w j' w'){x:A}{v:Value}(h:ARel j w x v):ARel j' w' x v:=by
 cases x with
 | d x=>exact DRel.mono hle h
 | agg xs=>obtain⟨cs,e,h⟩:=h; exact⟨cs,e,h.imp fun _ _ h=>h.mono hle⟩

def Ext (jl jl':List Nat):Prop:=∀(i b:Nat),jl[i]?=some b->jl'[i]?=some b
theorem Ext.refl (jl:List Nat):Ext jl jl:=fun _ _ h=>h
theorem VRel.mono {j j':J}{w w':World}(hle:Le j w j' w'){jl jl':List Nat}(hx:Ext jl jl'){x:V}{v:Value}(h:VRel j w jl x v):VRel j' w' jl' x v:=by
 cases x with
 | any=>trivial
 | a x=>exact ARel.mono hle h
 | lptr i off=>obtain⟨b,hb,e⟩:=h; exact⟨b,hx i b hb,e⟩
 | tup xs=>obtain⟨cs,e,h⟩:=h; exact⟨cs,e,h.imp fun _ _ h=>h.mono hle⟩
 | gd c x=>exact⟨fun hc=>ARel.mono hle (h.1 hc),h.2⟩
 | gdl c i off=>exact⟨fun hc=>let ⟨b,hb,e⟩:=h.1 hc; ⟨b,hx i b hb,e⟩,h.2⟩
 | full k rows=>exact⟨h.1.mono hle,h.2⟩
 | gdf c k rows=>exact⟨fun hc=>⟨(h.1 hc).1.mono hle,(h.1 hc).2⟩,h.2⟩

def blkOf (j:J) (id:Nat):Obj->Option Nat
 | .tok _ _ _=>(j.tok id).bind fun k=>k.blk.map (·.1)
 | .arr _ _=>(j.tok id).bind fun k=>k.blk.map (·.1)
 | .map _=>(j.tok id).bind fun k=>k.blk.map (·.1)
 | .fix b _=>some b
 | .fixt b _=>some b
 | _=>some (j.out id)

def ERel (j:J) (w:World) (e:D×A) (m:MapEntry):Prop:=DRel j w e.1 m.key/\ARel j w e.2 m.val

def Births (ms:List MapEntry) (clk:Nat):Prop:=(ms.map (·.born)).Nodup/\(∀m∈ms,m.born<clk)/\(ms.map (·.key)).Nodup
def ORel (j:J) (w:World) (id:Nat):Obj->Prop
 | .cells xs=>∃(cs:List Value) (e:TypeId),w.heap[j.out id]?=some (.cells cs.toArray e (0,0))/\All2 (DRel j w) xs cs/\j.F (j.out id)=0
 | .map es=>∃(b c:Nat) (ms:List MapEntry) (clk:Nat),j.tok id=some ⟨some (b,c),1⟩/\w.heap[b]?=some (.map ms.toArray clk)/\All2 (ERel j w) es ms/\j.F b=0/\Births ms clk
 | .tcells T xs=>∃cs:List Value,w.heap[j.out id]?=some (.cells cs.toArray T (0,0))/\All2 (DRel j w) xs cs/\j.F (j.out id)=0
 | .tok k m E=>∃blk,j.tok id=some ⟨blk,m⟩/\(∀b cap,blk=some (b,cap)->∃(cs:Array Value) (e:TypeId),w.heap[b]?=some (.cells cs e (0,0))/\cs.size=cap*k/\j.F b=m*k/\m<=cap/\∀T,E=some T->e=T)/\(E.isSome=true->blk=none->m=0)
 | .fix b o=>w.heap[b]?=some o
 | .fixt b o=>∃c,j.tok id=some ⟨some (b,c),1⟩/\w.heap[b]?=some o/\j.F b=0
 | .arr k rows=>∃blk,j.tok id=some ⟨blk,rows.length⟩/\(blk=none↔rows=[])/\(∀r∈rows,r.length=k)/\rows.length<=maxN/\∀b cap,blk=some (b,cap) ->
   ∃(cs:List Value) (e:TypeId),w.heap[b]?=some (.cells cs.toArray e (0,0))/\cs.length=cap*k/\j.F b=0/\rows.length<=cap/\All2 (DRel j w) rows.flatten (cs.take (rows.length*k))

def Obj.tokd:Obj->Bool
 | .tok _ _ _=>true
 | .arr _ _=>true
 | .map _=>true
 | .fix _ _=>true
 | .fixt _ _=>true
 | _=>false

def Own (j:J) (h:Heap) (jl:List Nat) (b:Nat):Prop:=b∈jl\/∃id o,h id=some o/\blkOf j id o=some b

structure HRel (j:J) (w:World) (h:Heap):Prop where
 obj:∀id o,h id=some o->id<j.next/\ORel j w id o
 inj:∀id1 o1 id2 o2 b,h id1=some o1->h id2=some o2->blkOf j id1 o1=some b->blkOf j id2 o2=some b->id1=id2
 fresh:∀b,w.heap.size<=b->j.F b=0

def Loc1 (j:J) (w:World) (b:Nat) (xs:List D):Prop:=∃(cs:List Value) (e:TypeId),w.heap[b]?=some (.cells cs.toArray e (0,0))/\All2 (DRel j w) xs cs/\j.F b=0

structure LRel (j:J) (w:World) (h:Heap) (ls:List (List D)) (jl:List Nat):Prop where
 each:All2 (fun xs b=>Loc1 j w b xs) ls jl
 nodup:jl.Nodup
 apart:∀b,b∈jl->¬Own j h [] b

class Lou where
 loud:Prop
abbrev Lou.on:Lou:=⟨True⟩
abbrev Lou.off:Lou:=⟨False⟩
variable {lou:Lou}
def Outs [Lou] (w w':World):Prop:=w'.output=w.output/\(w.drawn<=w'.drawn\/Lou.loud)
theorem Outs.rfl {w w':World}(h1:w'.output=w.output:=by first|rfl|simp) (h2:w.drawn<=w'.drawn:=by first|exact Nat.le_refl _|exact Nat.le_succ _|simp):Outs w w':=⟨h1,.inl h2⟩
theorem Outs.trans {w w1 w2:World}(h':Outs w1 w2) (h:Outs w w1):Outs w w2:=⟨h'.1.trans h.1,h.2.elim (fun a=>h'.2.elim (fun b=>.inl (Nat.le_trans a b)) .inr) .inr⟩
structure Evolve [Lou] (j:J) (w:World) (O:Nat->Prop) (j':J) (w':World) (O':Nat->Prop):Prop extends Le j w j' w' where
 size:w.heap.size<=w'.heap.size
 frame:∀b,b<w.heap.size->¬O b->w'.heap[b]?=w.heap[b]?/\j'.F b=j.F b
 own:∀b,b<w.heap.size->O' b->O b
 os:w'.os=w.os
 tape:w'.tape=w.tape
 output:Outs w w'

theorem Evolve.refl (j:J) (w:World) (O:Nat->Prop):Evolve j w O j w O :=
 ⟨Le.refl _ _,Nat.le_refl _,fun _ _ _=>⟨rfl,rfl⟩,fun _ _ h=>h,rfl,rfl,Outs.rfl⟩
theorem Evolve.trans {j j1 j2:J}{w w1 w2:World}{O O1 O2:Nat->Prop}(h:Evolve j w O j1 w1 O1) (h':Evolve j1 w1 O1 j2 w2 O2):Evolve j w O j2 w2 O2:=by
 refine⟨h.toLe.trans h'.toLe,Nat.le_trans h.size h'.size,fun b hb ho=>?_,fun b hb ho=>h.own b hb (h'.own b (Nat.lt_of_lt_of_le hb h.size) ho),h'.os.trans h.os,h'.tape.trans h.tape,h'.output.trans h.output⟩;have h1:=h.frame b hb ho;have h2:=h'.frame b (Nat.lt_of_lt_of_le hb h.size) (fun ho1=>ho (h.own b hb ho1));exact⟨h2.1.trans h1.1,h2.2.trans h1.2⟩
theorem Evolve.drew (j:J) (w:World) (O:Nat->Prop):Evolve j w O j w.drew O :=
 ⟨⟨Nat.le_refl _,fun _ _=>rfl,fun _=>Nat.le_refl _,fun _ _ _=>rfl,fun _ _=>.inl rfl⟩,Nat.le_refl _,fun _ _ _=>⟨rfl,rfl⟩,fun _ _ h=>h,rfl,rfl,Outs.rfl⟩
theorem Evolve.drop {j j':J}{w w':World}{O O' O'':Nat->Prop}(h:Evolve j w O j' w' O') (ho:∀b,O'' b->O' b):Evolve j w O j' w' O'' :=
 { h with own:=fun b hb h'=>h.own b hb (ho b h') }
def V.under (c:Bool):V->V
 | .a x=>.gd c x
 | .lptr i off=>.gdl c i off
 | .full k rows=>.gdf c k rows
 | _=>.any
theorem V.under_true {j:J}{w:World}{jl:List Nat}{x:V}{v:Value}(h:VRel j w jl x v):VRel j w jl (x.under true) v:=by
 cases x with
 | a x=>exact⟨fun _=>h,fun e=>by cases e⟩
 | lptr i off=>exact⟨fun _=>h,fun e=>by cases e⟩
 | full k rows=>exact⟨fun _=>h,fun e=>by cases e⟩
 | _=>trivial
theorem V.under_false {j:J}{w:World}{jl:List Nat}(x:V):VRel j w jl (x.under false) (.tuple #[]):=by
 cases x with
 | a x=>exact⟨(fun e=>by cases e),fun _=>rfl⟩
 | lptr i off=>exact⟨(fun e=>by cases e),fun _=>rfl⟩
 | full k rows=>exact⟨(fun e=>by cases e),fun _=>rfl⟩
 | _=>trivial

end Go.Ab

/-
 How the steps of the model change the abstract state: a new block of data,a new object,a new local,a store,an append.
-/
namespace Go.Ab
open Go Go.RowKit
variable {lou:Lou}

def HL (j:J) (w:World) (jl:List Nat) (ls:List (List D)) (h:Heap):Prop:=HRel j w h/\LRel j w h ls jl

theorem lt_of_heap {w:World}{b:Nat}{o:Go.Obj}(h:w.heap[b]?=some o):b<w.heap.size:=by
 rcases Nat.lt_or_ge b w.heap.size with h'|h'
 ·exact h'
 ·rw [Array.getElem?_eq_none h'] at h; simp at h

theorem ORel.blk_lt {j:J}{w:World}{id:Nat}{o:Obj}(h:ORel j w id o){b:Nat}(hb:blkOf j id o=some b):b<w.heap.size:=by
 cases o with
 | cells xs=>obtain⟨cs,e,hh,_⟩:=h; simp only [blkOf,Option.some.injEq] at hb; subst hb; exact lt_of_heap hh
 | tcells T xs=>obtain⟨cs,hh,_⟩:=h; simp only [blkOf,Option.some.injEq] at hb; subst hb; exact lt_of_heap hh
 | fix b' o=>simp only [blkOf,Option.some.injEq] at hb; subst hb; exact lt_of_heap h
 | fixt b' o=>obtain⟨c,_,hh,_⟩:=h; simp only [blkOf,Option.some.injEq] at hb; subst hb; exact lt_of_heap hh
 | map es =>
  obtain⟨b',c,ms,clk,ht,hh,_⟩:=h;simp only [blkOf,ht,Option.bind_some,Option.map_some,Option.some.injEq] at hb;subst hb; exact lt_of_heap hh
 | tok k m E =>
  obtain⟨blk,ht,hh,_⟩:=h;simp only [blkOf,ht,Option.bind_some] at hb;cases blk with
  | none=>simp at hb
  | some bc =>
   obtain⟨b',cap⟩:=bc;simp only [Option.map_some,Option.some.injEq] at hb;subst hb;obtain⟨cs,e,hh,_⟩:=hh _ _ rfl;exact lt_of_heap hh
 | arr k rows =>
  obtain⟨blk,ht,_,_,_,hh⟩:=h;simp only [blkOf,ht,Option.bind_some] at hb;cases blk with
  | none=>simp at hb
  | some bc =>
   obtain⟨b',cap⟩:=bc;simp only [Option.map_some,Option.some.injEq] at hb;subst hb;obtain⟨cs,e,hh,_⟩:=hh _ _ rfl;exact lt_of_heap hh

theorem Own.lt {j:J}{w:World}{jl:List Nat}{ls:List (List D)}{h:Heap}(hl:HL j w jl ls h){b:Nat}(ho:Own j h jl b):b<w.heap.size:=by
 rcases ho with hm|⟨id,o,hi,hb⟩
 ·obtain⟨i,hi⟩:=List.getElem?_of_mem hm;obtain⟨xs,_,cs,e,hh,_⟩:=hl.2.each.get' hi;exact lt_of_heap hh
 ·exact(hl.1.obj id o hi).2.blk_lt hb

theorem ERel.mono {j j':J}{w w':World}(hle:Le j w j' w'){e:D×A}{m:MapEntry}(h:ERel j w e m):ERel j' w' e m:=⟨h.1.mono hle,h.2.mono hle⟩

theorem ORel.keep {j j':J}{w w':World}(hle:Le j w j' w'){id:Nat}{o:Obj}(hid:id<j.next) (h:ORel j w id o)
  (hb:∀b,blkOf j id o=some b->w'.heap[b]?=w.heap[b]?/\j'.F b=j.F b) (ht:o.tokd=true->j'.tok id=j.tok id):ORel j' w' id o/\blkOf j' id o=blkOf j id o:=by
 cases o with
 | cells xs =>
  obtain⟨cs,e,hh,hx,hF⟩:=h;obtain⟨e1,e2⟩:=hb _ rfl;have eo:=hle.out id hid;exact⟨⟨cs,e,by rw [eo,e1]; exact hh,hx.imp fun _ _ h=>h.mono hle,by rw [eo,e2]; exact hF⟩,by simp [blkOf,eo]⟩
 | tcells T xs =>
  obtain⟨cs,hh,hx,hF⟩:=h;obtain⟨e1,e2⟩:=hb _ rfl;have eo:=hle.out id hid;exact⟨⟨cs,by rw [eo,e1]; exact hh,hx.imp fun _ _ h=>h.mono hle,by rw [eo,e2]; exact hF⟩,by simp [blkOf,eo]⟩
 | fix b o =>
  obtain⟨e1,_⟩:=hb b rfl;exact⟨e1.trans h,rfl⟩
 | fixt b o =>
  obtain⟨c,et0,hh,hF⟩:=h;have et:=ht rfl;obtain⟨e1,e2⟩:=hb b rfl;exact⟨⟨c,by rw [et]; exact et0,e1.trans hh,by rw [e2]; exact hF⟩,rfl⟩
 | map es =>
  obtain⟨b,c,ms,clk,et0,hh,hx,hF,hB⟩:=h;have et:=ht rfl;obtain⟨e1,e2⟩:=hb b (by simp [blkOf,et0]);exact⟨⟨b,c,ms,clk,by rw [et]; exact et0,by rw [e1]; exact hh,hx.imp fun _ _ h=>h.mono hle,by rw [e2]; exact hF,hB⟩,by simp [blkOf,et]⟩
 | tok k m E =>
  obtain⟨blk,e,hh,hE0⟩:=h;have et:=ht rfl;refine⟨⟨blk,by rw [et]; exact e,fun b cap hbc=>?_,hE0⟩,by simp [blkOf,et]⟩;obtain⟨cs,ty,h1,h2,h3,h4,h5⟩:=hh b cap hbc;obtain⟨e1,e2⟩:=hb b (by simp [blkOf,e,hbc]);exact⟨cs,ty,by rw [e1]; exact h1,h2,by rw [e2]; exact h3,h4,h5⟩
 | arr k rows =>
  obtain⟨blk,e,g2,g3,g4,hh⟩:=h;have et:=ht rfl;refine⟨⟨blk,by rw [et]; exact e,g2,g3,g4,fun b cap hbc=>?_⟩,by simp [blkOf,et]⟩;obtain⟨cs,ty,h1,h2,h3,h4,h5⟩:=hh b cap hbc;obtain⟨e1,e2⟩:=hb b (by simp [blkOf,e,hbc]);exact⟨cs,ty,by rw [e1]; exact h1,h2,by rw [e2]; exact h3,h4,h5.imp fun _ _ h=>h.mono hle⟩

theorem Loc1.keep {j j':J}{w w':World}(hle:Le j w j' w'){b:Nat}{xs:List D}(h:Loc1 j w b xs) (hb:w'.heap[b]?=w.heap[b]?/\j'.F b=j.F b):Loc1 j' w' b xs:=by
 obtain⟨cs,e,hh,hx,hF⟩:=h;exact⟨cs,e,by rw [hb.1]; exact hh,hx.imp fun _ _ h=>h.mono hle,by rw [hb.2]; exact hF⟩

theorem all2_imp_mem {α β:Type}{R S:α->β->Prop}{l:List α}{m:List β}(hl:All2 R l m) (h:∀a b,b∈m->R a b->S a b):All2 S l m:=by
 induction hl with
 | nil=>exact .nil
 | cons x _ ih=>exact .cons (h _ _ (by simp) x) (ih fun a b hb=>h a b (by simp [hb]))

theorem HL.keep {j j':J}{w w':World}{jl:List Nat}{ls:List (List D)}{h:Heap}(hl:HL j w jl ls h) (hle:Le j w j' w')
  (hb:∀b,Own j h jl b->w'.heap[b]?=w.heap[b]?/\j'.F b=j.F b) (ht:∀id,id<j.next->(∃o,h id=some o/\o.tokd=true)->j'.tok id=j.tok id)
  (hf:∀b,w'.heap.size<=b->j'.F b=0):HL j' w' jl ls h/\∀b,Own j' h jl b↔Own j h jl b:=by
 have key:∀id o,h id=some o->ORel j' w' id o/\blkOf j' id o=blkOf j id o:=fun id o hi =>
  (hl.1.obj id o hi).2.keep hle (hl.1.obj id o hi).1 (fun b e=>hb b (.inr ⟨id,o,hi,e⟩)) (fun e=>ht id (hl.1.obj id o hi).1 ⟨o,hi,e⟩)
 have hown:∀jl b,Own j' h jl b↔Own j h jl b:=by
  intro jl b;constructor
  ·rintro (hm|⟨id,o,hi,e⟩)
   ·exact .inl hm
   ·exact .inr ⟨id,o,hi,(key id o hi).2▸e⟩
  ·rintro (hm|⟨id,o,hi,e⟩)
   ·exact .inl hm
   ·exact .inr ⟨id,o,hi,(key id o hi).2.symm▸e⟩
 refine⟨⟨⟨fun id o hi=>⟨Nat.lt_of_lt_of_le (hl.1.obj id o hi).1 hle.next,(key id o hi).1⟩,fun id1 o1 id2 o2 b h1 h2 e1 e2=>?_,hf⟩,
  ⟨all2_imp_mem hl.2.each fun xs b hm h=>h.keep hle (hb b (.inl hm)),hl.2.nodup,fun b hm ho=>hl.2.apart b hm ((hown [] b).1 ho)⟩⟩,hown jl⟩
 exact hl.1.inj id1 o1 id2 o2 b h1 h2 ((key id1 o1 h1).2▸e1) ((key id2 o2 h2).2▸e2)

theorem HL.drew {j:J}{w:World}{jl:List Nat}{ls:List (List D)}{h:Heap}(hl:HL j w jl ls h):HL j w.drew jl ls h :=
 (hl.keep (@Evolve.toLe Lou.off _ _ _ _ _ _ (@Evolve.drew Lou.off j w (Own j h jl))) (fun _ _=>⟨rfl,rfl⟩) (fun _ _ _=>rfl) hl.1.fresh).1

theorem heap_alloc_ne {w:World}{o:Go.Obj}{b:Nat}(h:b<w.heap.size):(w.alloc o).heap[b]?=w.heap[b]?:=by
 show (w.heap.push o)[b]?=_;rw [Array.getElem?_push,if_neg (by omega)]

def J.frz (j:J) (b n:Nat):J:={ j with F:=fun x=>if x=b then n else j.F x }

theorem Le.alloc {j:J}{w:World}{o:Go.Obj}(hf:∀b,w.heap.size<=b->j.F b=0) (n:Nat):Le j w (j.frz w.heap.size n) (w.alloc o):=by
 refine⟨Nat.le_refl _,fun _ _=>rfl,fun b=>?_,fun b o' ho=>?_,fun _ _=>.inl rfl⟩
 ·simp only [J.frz]
  split
  ·rename_i e; rw [hf b (by omega)]; exact Nat.zero_le _
  ·exact Nat.le_refl _
 ·have hb:b<w.heap.size:=by
   rcases Nat.lt_or_ge b w.heap.size with h|h
   ·exact h
   ·rw [hf b h] at ho; omega
  exact World.cell?_alloc_lt w _ _ hb

theorem HL.data {j:J}{w:World}{jl:List Nat}{ls:List (List D)}{h:Heap}(hl:HL j w jl ls h) (o:Go.Obj) (n:Nat) :
  HL (j.frz w.heap.size n) (w.alloc o) jl ls h/\Evolve j w (Own j h jl) (j.frz w.heap.size n) (w.alloc o) (Own (j.frz w.heap.size n) h jl):=by
 have hle:=Le.alloc (o:=o) hl.1.fresh n;have h1:∀b,b<w.heap.size->(w.alloc o).heap[b]?=w.heap[b]?/\(j.frz w.heap.size n).F b=j.F b:=fun b hb =>
  ⟨heap_alloc_ne hb,by simp only [J.frz]; rw [if_neg (by omega)]⟩
 have hk:=hl.keep hle (fun b ho=>h1 b (ho.lt hl)) (fun _ _ _=>rfl) (fun b hb=>by
  simp only [World.size_alloc] at hb;simp only [J.frz]; rw [if_neg (by omega)]; exact hl.1.fresh b (by omega))
 exact⟨hk.1,{ toLe:=hle,size:=by simp,frame:=fun b hb _=>h1 b hb,own:=fun b _ ho=>(hk.2 b).1 ho,os:=rfl,tape:=rfl,output:=Outs.rfl }⟩

theorem J.frz_zero {j:J}{b:Nat}(h:j.F b=0):j.frz b 0=j:=by
 unfold J.frz;have:(fun x=>if x=b then 0 else j.F x)=j.F:=by
  funext x; split
  ·rename_i e; rw [e,h]
  ·rfl
 rw [this]

theorem HL.loc {j:J}{w:World}{jl:List Nat}{ls:List (List D)}{h:Heap}(hl:HL j w jl ls h) (cs:List Value) (e:TypeId) (xs:List D) (hx:All2 (DRel j w) xs cs) :
  HL j (w.alloc (.cells cs.toArray e)) (jl++[w.heap.size]) (ls++[xs]) h/\Evolve j w (Own j h jl) j (w.alloc (.cells cs.toArray e)) (Own j h (jl++[w.heap.size])):=by
 have hd:=hl.data (lou:=lou) (.cells cs.toArray e) 0;rw [J.frz_zero (hl.1.fresh _ (Nat.le_refl _))] at hd;obtain⟨hk,hev⟩:=hd;have hnew:∀b,b∈jl->b<w.heap.size:=fun b hb=>(Own.lt hl (.inl hb));refine⟨⟨hk.1,⟨hk.2.each.append (.cons ⟨cs,e,heap_alloc_new w _,hx.imp fun _ _ h=>h.mono hev.toLe,hl.1.fresh _ (Nat.le_refl _)⟩ .nil), ?_,fun b hb ho=>?_⟩⟩, ?_⟩
 ·rw [List.nodup_append];refine⟨hk.2.nodup,by simp,fun a ha b hb=>?_⟩;simp at hb; subst hb;have:=hnew a ha; omega
 ·rcases List.mem_append.1 hb with hb|hb
  ·exact hk.2.apart b hb ho
  ·simp at hb; subst hb;have:w.heap.size<w.heap.size:=by
    rcases ho with ho|⟨id,o,hi,e⟩
    ·simp at ho
    ·exact Own.lt hl (.inr ⟨id,o,hi,e⟩)
   omega
 ·refine { hev with own:=fun b hb ho=>?_ };rcases ho with ho|ho
  ·rcases List.mem_append.1 ho with ho|ho
   ·exact .inl ho
   ·simp at ho; omega
  ·exact .inr ho

def J.obj (j:J) (b:Nat):J:={ j with out:=fun x=>if x=j.next then b else j.out x,next:=j.next+1 }

theorem Heap.set_same (h:Heap) (i:Nat) (o:Option Obj):h.set i o i=o:=by simp [Heap.set]
theorem Heap.set_other (h:Heap){i n:Nat}(o:Option Obj) (hn:n≠i):h.set i o n=h n:=by simp [Heap.set,hn]
theorem Heap.set_set (h:Heap) (i:Nat) (o o':Option Obj):(h.set i o).set i o'=h.set i o':=by
 funext n; simp only [Heap.set]; split<;>rfl
theorem Heap.set_self (h:Heap) (i:Nat) (o:Option Obj) (hi:h i=o):h.set i o=h:=by
 funext n; simp only [Heap.set]; split
 ·rename_i e; rw [e,hi]
 ·rfl

theorem HRel.next_none {j:J}{w:World}{h:Heap}(hr:HRel j w h){id:Nat}(hi:j.next<=id):h id=none:=by
 cases e:h id with
 | none=>rfl
 | some o=>have:=(hr.obj id o e).1; omega

theorem HL.obj {j:J}{w:World}{jl:List Nat}{ls:List (List D)}{h:Heap}(hl:HL j w jl ls h) (go:Go.Obj) (o:Obj) (hnt:o.tokd=false)
  (ho:ORel (j.obj w.heap.size) (w.alloc go) j.next o) :
  HL (j.obj w.heap.size) (w.alloc go) jl ls (h.set j.next (some o)) /\
   Evolve j w (Own j h jl) (j.obj w.heap.size) (w.alloc go) (Own (j.obj w.heap.size) (h.set j.next (some o)) jl):=by
 have hd:=hl.data (lou:=lou) go 0;rw [J.frz_zero (hl.1.fresh _ (Nat.le_refl _))] at hd;obtain⟨hk,hev⟩:=hd;have hle:Le j (w.alloc go) (j.obj w.heap.size) (w.alloc go) :=
  ⟨by simp [J.obj],fun id hi=>by simp only [J.obj]; rw [if_neg (by omega)],fun _=>Nat.le_refl _,fun _ _ _=>rfl,fun _ _=>.inl rfl⟩
 have hk2:=hk.keep hle (fun _ _=>⟨rfl,rfl⟩) (fun _ _ _=>rfl) hk.1.fresh;have hblk:blkOf (j.obj w.heap.size) j.next o=some w.heap.size:=by
  cases o with
  | tok k m E=>simp [Obj.tokd] at hnt
  | arr k rows=>simp [Obj.tokd] at hnt
  | cells xs=>simp [blkOf,J.obj]
  | tcells T xs=>simp [blkOf,J.obj]
  | map es=>simp [Obj.tokd] at hnt
  | fixt b o=>simp [Obj.tokd] at hnt
  | fix b o=>simp [Obj.tokd] at hnt
 have hold:∀id o',h id=some o'->id≠j.next:=fun id o' hi e=>by
  rw [e,hl.1.next_none (Nat.le_refl _)] at hi; simp at hi
 have hlt:∀id o' b,h id=some o'->blkOf (j.obj w.heap.size) id o'=some b->b<w.heap.size:=fun id o' b hi e =>
  Own.lt hl ((hk2.2 b).1 (.inr ⟨id,o',hi,e⟩))
 refine⟨⟨⟨fun id o' hi=>?_,fun id1 o1 id2 o2 b h1 h2 e1 e2=>?_,hk.1.fresh⟩,⟨hk2.1.2.each,hk2.1.2.nodup,fun b hb hown=>?_⟩⟩, ?_⟩
 ·by_cases e:id=j.next
  ·subst e; rw [Heap.set_same] at hi; simp only [Option.some.injEq] at hi; subst hi;exact⟨by simp [J.obj],ho⟩
  ·rw [Heap.set_other h _ e] at hi; exact hk2.1.1.obj id o' hi
 ·by_cases c1:id1=j.next<;>by_cases c2:id2=j.next
  ·omega
  ·subst c1; rw [Heap.set_same] at h1; simp only [Option.some.injEq] at h1; subst h1;rw [Heap.set_other h _ c2] at h2;rw [hblk] at e1; simp only [Option.some.injEq] at e1;have:=hlt id2 o2 b h2 e2; omega
  ·subst c2; rw [Heap.set_same] at h2; simp only [Option.some.injEq] at h2; subst h2;rw [Heap.set_other h _ c1] at h1;rw [hblk] at e2; simp only [Option.some.injEq] at e2;have:=hlt id1 o1 b h1 e1; omega
  ·rw [Heap.set_other h _ c1] at h1; rw [Heap.set_other h _ c2] at h2;exact hk2.1.1.inj id1 o1 id2 o2 b h1 h2 e1 e2
 ·rcases hown with hown|⟨id,o',hi,e⟩
  ·simp at hown
  ·by_cases c:id=j.next
   ·subst c; rw [Heap.set_same] at hi; simp only [Option.some.injEq] at hi; subst hi;rw [hblk] at e; simp only [Option.some.injEq] at e;have:=Own.lt hl (.inl hb); omega
   ·rw [Heap.set_other h _ c] at hi;exact hk2.1.2.apart b hb (.inr ⟨id,o',hi,e⟩)
 ·refine { toLe:=hev.toLe.trans hle,size:=by simp,frame:=fun b hb hn=>hev.frame b hb hn,own:=fun b hb hown=>?_,os:=rfl,tape:=rfl,output:=Outs.rfl };rcases hown with hown|⟨id,o',hi,e⟩
  ·exact .inl hown
  ·by_cases c:id=j.next
   ·subst c; rw [Heap.set_same] at hi; simp only [Option.some.injEq] at hi; subst hi;rw [hblk] at e; simp only [Option.some.injEq] at e; omega
   ·rw [Heap.set_other h _ c] at hi;exact(hk2.2 b).1 (.inr ⟨id,o',hi,e⟩)

end Go.Ab

/-
 Stores: into a local,into an object; slices that grow.
-/
namespace Go.Ab
open Go Go.RowKit
variable {lou:Lou}

structure Upd [Lou] (w w':World) (b:Nat) (o:Go.Obj):Prop where
 size:w'.heap.size=w.heap.size
 here:w'.heap[b]?=some o
 other:∀x,x≠b->w'.heap[x]?=w.heap[x]?
 os:w'.os=w.os
 tape:w'.tape=w.tape
 output:Outs w w'

theorem cell?_eq {w w':World}{b o:Nat}(h:w'.heap[b]?=w.heap[b]?):w'.cell? ⟨b,o,none⟩=w.cell? ⟨b,o,none⟩:=by simp [World.cell?,h]

theorem Upd.le {j:J}{w w':World}{b:Nat}{o:Go.Obj}(hu:Upd w w' b o) (hF:j.F b=0):Le j w j w' :=
 ⟨Nat.le_refl _,fun _ _=>rfl,fun _=>Nat.le_refl _,fun x i hi=>cell?_eq (hu.other x fun e=>by rw [e,hF] at hi; omega),fun _ _=>.inl rfl⟩

theorem all2_set_ne {α β:Type}{R S:α->β->Prop}{l:List α}{m:List β}(hl:All2 R l m) (hnd:m.Nodup){i:Nat}{y:β}(hy:m[i]?=some y) (x:α) (hx:S x y)
  (h:∀a b,b∈m->b≠y->R a b->S a b):All2 S (l.set i x) m:=by
 refine All2.of_get (by simp [hl.length]) fun n a b ha hb=>?_;by_cases e:i=n
 ·subst e;rw [hy] at hb; simp only [Option.some.injEq] at hb; subst hb;rw [List.getElem?_set] at ha;simp only [if_true] at ha
  split at ha
  ·simp only [Option.some.injEq] at ha; subst ha; exact hx
  ·simp at ha
 ·rw [List.getElem?_set,if_neg e] at ha;obtain⟨b',hb',hr⟩:=hl.get ha;rw [hb] at hb'; simp only [Option.some.injEq] at hb'; subst hb';refine h _ _ (List.mem_of_getElem? hb) (fun e'=>?_) hr;subst e';exact e ((List.getElem?_inj (List.getElem?_eq_some_iff.1 hy).1 hnd).1 (hy.trans hb.symm))

theorem HL.setLoc {j:J}{w w':World}{jl:List Nat}{ls:List (List D)}{h:Heap}(hl:HL j w jl ls h){i b:Nat}(hb:jl[i]?=some b) (hF:j.F b=0)
  {cs:List Value}{e:TypeId}(hu:Upd w w' b (.cells cs.toArray e (0,0))){xs:List D}(hx:All2 (DRel j w) xs cs) :
  HL j w' jl (ls.set i xs) h/\Evolve j w (Own j h jl) j w' (Own j h jl):=by
 have hle:=hu.le (j:=j) hF;have hmem:b∈jl:=List.mem_of_getElem? hb;have hne:∀x,Own j h [] x->x≠b:=fun x ho e=>hl.2.apart b hmem (e▸ho);have hr:HRel j w' h/\∀x,Own j h [] x↔Own j h [] x:=by
  have h0:HL j w [] [] h:=⟨hl.1,⟨.nil,by simp,by simp⟩⟩;have:=h0.keep hle (fun x ho=>⟨hu.other x (hne x ho),rfl⟩) (fun _ _ _=>rfl) (fun x hx=>hl.1.fresh x (by rw [hu.size] at hx; exact hx));exact⟨this.1.1,fun _=>Iff.rfl⟩
 refine⟨⟨hr.1,⟨all2_set_ne hl.2.each hl.2.nodup hb xs ⟨cs,e,hu.here,hx.imp fun _ _ h=>h.mono hle,hF⟩ fun a y _ hy h=>h.keep hle ⟨hu.other y hy,rfl⟩,hl.2.nodup,hl.2.apart⟩⟩,
  { toLe:=hle,size:=by rw [hu.size]; exact Nat.le_refl _,frame:=fun x _ hn=>⟨hu.other x fun e=>hn (e▸.inl hmem),rfl⟩,own:=fun _ _ h=>h,os:=hu.os,tape:=hu.tape,output:=hu.output }⟩

theorem HL.setObj {j:J}{w w':World}{jl:List Nat}{ls:List (List D)}{h:Heap}(hl:HL j w jl ls h){id:Nat}{o o':Obj}{go:Go.Obj}{B:Nat}(hi:h id=some o)
  (hb:blkOf j id o=some B) (hb':blkOf j id o'=some B) (hF:j.F B=0)
  (hu:Upd w w' B go) (ho:ORel j w' id o') :
  HL j w' jl ls (h.set id (some o'))/\Evolve j w (Own j h jl) j w' (Own j (h.set id (some o')) jl):=by
 have hle:=hu.le (j:=j) hF;have hown:∀jl x,Own j (h.set id (some o')) jl x↔Own j h jl x:=by
  intro jl x;constructor
  ·rintro (hm|⟨n,q,hn,e⟩)
   ·exact .inl hm
   ·by_cases c:n=id
    ·subst c; rw [Heap.set_same] at hn; simp only [Option.some.injEq] at hn; subst hn;rw [hb'] at e; exact .inr ⟨_,o,hi,by rw [hb]; exact e⟩
    ·rw [Heap.set_other h _ c] at hn; exact .inr ⟨n,q,hn,e⟩
  ·rintro (hm|⟨n,q,hn,e⟩)
   ·exact .inl hm
   ·by_cases c:n=id
    ·subst c; rw [hi] at hn; simp only [Option.some.injEq] at hn; subst hn;rw [hb] at e; exact .inr ⟨_,o',Heap.set_same _ _ _,by rw [hb']; exact e⟩
    ·exact .inr ⟨n,q,by rw [Heap.set_other h _ c]; exact hn,e⟩
 have hsep:∀n q x,h n=some q->n≠id->blkOf j n q=some x->x≠B:=fun n q x hn hne e c =>
  hne (hl.1.inj n q id o x hn hi e (c▸hb))
 have hloc:∀x,x∈jl->x≠B:=fun x hx c=>hl.2.apart x hx (.inr ⟨id,o,hi,c▸hb⟩);refine⟨⟨⟨fun n q hn=>?_,fun n1 q1 n2 q2 x h1 h2 e1 e2=>?_,fun x hx=>hl.1.fresh x (by rw [hu.size] at hx; exact hx)⟩,
  ⟨all2_imp_mem hl.2.each fun xs x hx h=>h.keep hle ⟨hu.other x (hloc x hx),rfl⟩,hl.2.nodup,fun x hx ho=>hl.2.apart x hx ((hown [] x).1 ho)⟩⟩, ?_⟩
 ·by_cases c:n=id
  ·subst c; rw [Heap.set_same] at hn; simp only [Option.some.injEq] at hn; subst hn;exact⟨(hl.1.obj _ o hi).1,ho⟩
  ·rw [Heap.set_other h _ c] at hn;have:=hl.1.obj n q hn;exact⟨this.1,(this.2.keep hle this.1 (fun x e=>⟨hu.other x (hsep n q x hn c e),rfl⟩) (fun _=>rfl)).1⟩
 ·have f:∀n q,(h.set id (some o')) n=some q->∃q',h n=some q'/\∀x,blkOf j n q=some x->blkOf j n q'=some x:=by
   intro n q hn;by_cases c:n=id
   ·subst c; rw [Heap.set_same] at hn; simp only [Option.some.injEq] at hn; subst hn;exact⟨o,hi,fun x e=>by rw [hb'] at e; rw [hb]; exact e⟩
   ·rw [Heap.set_other h _ c] at hn; exact⟨q,hn,fun _ e=>e⟩
  obtain⟨q1',g1,f1⟩:=f n1 q1 h1;obtain⟨q2',g2,f2⟩:=f n2 q2 h2;exact hl.1.inj n1 q1' n2 q2' x g1 g2 (f1 x e1) (f2 x e2)
 ·exact { toLe:=hle,size:=(by rw [hu.size]; exact Nat.le_refl _),frame:=(fun x _ hn=>⟨hu.other x (fun c=>hn (.inr ⟨id,o,hi,c▸hb⟩)),rfl⟩),own:=(fun x _ h=>(hown jl x).1 h),os:=hu.os,tape:=hu.tape,output:=hu.output }

theorem HL.forget {j:J}{w:World}{jl:List Nat}{ls:List (List D)}{h h':Heap}(hl:HL j w jl ls h) (hs:∀id o,h' id=some o->h id=some o) :
  HL j w jl ls h'/\Evolve j w (Own j h jl) j w (Own j h' jl):=by
 have hown:∀jl x,Own j h' jl x->Own j h jl x:=by
  rintro jl x (hm|⟨n,q,hn,e⟩)
  ·exact .inl hm
  ·exact .inr ⟨n,q,hs n q hn,e⟩
 exact⟨⟨⟨fun id o hi=>hl.1.obj id o (hs id o hi),fun n1 q1 n2 q2 x h1 h2 e1 e2=>hl.1.inj n1 q1 n2 q2 x (hs _ _ h1) (hs _ _ h2) e1 e2,hl.1.fresh⟩,
  ⟨hl.2.each,hl.2.nodup,fun x hx ho=>hl.2.apart x hx (hown [] x ho)⟩⟩,(Evolve.refl j w _).drop (hown jl)⟩

theorem HL.trim {j:J}{w:World}{jl:List Nat}{ls:List (List D)}{h:Heap}(hl:HL j w jl ls h) (n:Nat) :
  HL j w (jl.take n) (ls.take n) h/\Evolve j w (Own j h jl) j w (Own j h (jl.take n)) :=
 ⟨⟨hl.1,⟨hl.2.each.take n,hl.2.nodup.sublist (List.take_sublist n jl),fun b hb=>hl.2.apart b (List.mem_of_mem_take hb)⟩⟩,
  (Evolve.refl j w _).drop fun _ ho=>ho.elim (fun x=>.inl (List.mem_of_mem_take x)) .inr⟩

def J.newTok (j:J):J:={ j with tok:=fun x=>if x=j.next then some ⟨none,0⟩ else j.tok x,next:=j.next+1 }

theorem HL.newTok {j:J}{w:World}{jl:List Nat}{ls:List (List D)}{h:Heap}(hl:HL j w jl ls h) (k:Nat) (E:Option TypeId:=none) :
  HL j.newTok w jl ls (h.set j.next (some (.tok k 0 E)))/\Evolve j w (Own j h jl) j.newTok w (Own j.newTok (h.set j.next (some (.tok k 0 E))) jl):=by
 have hle:Le j w j.newTok w:=⟨by simp [J.newTok],fun _ _=>rfl,fun _=>Nat.le_refl _,fun _ _ _=>rfl,fun t ht=>.inl (by simp only [J.newTok]; rw [if_neg (by omega)])⟩;have hk:=hl.keep hle (fun _ _=>⟨rfl,rfl⟩) (fun id hid _=>by simp only [J.newTok]; rw [if_neg (by omega)]) hl.1.fresh;have hnew:∀b,blkOf j.newTok j.next (.tok k 0 E)≠some b:=by intro b; simp [blkOf,J.newTok]
 have hown:∀jl x,Own j.newTok (h.set j.next (some (.tok k 0 E))) jl x->Own j.newTok h jl x:=by
  rintro jl x (hm|⟨n,q,hn,e⟩)
  ·exact .inl hm
  ·by_cases c:n=j.next
   ·subst c; rw [Heap.set_same] at hn; simp only [Option.some.injEq] at hn; subst hn;exact absurd e (hnew x)
   ·rw [Heap.set_other h _ c] at hn; exact .inr ⟨n,q,hn,e⟩
 refine⟨⟨⟨fun id o hi=>?_,fun n1 q1 n2 q2 x h1 h2 e1 e2=>?_,hl.1.fresh⟩,⟨hk.1.2.each,hk.1.2.nodup,fun x hx ho=>hk.1.2.apart x hx (hown [] x ho)⟩⟩,
  { (Evolve.refl j w (Own j h jl)) with toLe:=hle,frame:=fun _ _ _=>⟨rfl,rfl⟩,own:=fun b _ ho=>(hk.2 b).1 (hown jl b ho) }⟩
 ·by_cases c:id=j.next
  ·subst c; rw [Heap.set_same] at hi; simp only [Option.some.injEq] at hi; subst hi;exact⟨by simp [J.newTok],none,by simp [J.newTok],(by intro _ _ h; cases h),fun _ _=>rfl⟩
  ·rw [Heap.set_other h _ c] at hi; exact hk.1.1.obj id o hi
 ·by_cases c1:n1=j.next
  ·subst c1; rw [Heap.set_same] at h1; simp only [Option.some.injEq] at h1; subst h1;exact absurd e1 (hnew x)
  ·by_cases c2:n2=j.next
   ·subst c2; rw [Heap.set_same] at h2; simp only [Option.some.injEq] at h2; subst h2;exact absurd e2 (hnew x)
   ·rw [Heap.set_other h _ c1] at h1; rw [Heap.set_other h _ c2] at h2;exact hk.1.1.inj n1 q1 n2 q2 x h1 h2 e1 e2

def J.retok (j:J) (t:Nat) (k:Tk) (b n:Nat):J:={ j with tok:=fun x=>if x=t then some k else j.tok x,F:=fun x=>if x=b then n else j.F x }

theorem HL.grow {j:J}{w w':World}{jl:List Nat}{ls:List (List D)}{h:Heap}(hl:HL j w jl ls h){t k m m':Nat}{E:Option TypeId}(ht:h t=some (.tok k m E)) (hm:m<m')
  {b cap:Nat}{cs:Array Value}{e:TypeId}(hb:w'.heap[b]?=some (.cells cs e (0,0))) (hsz:cs.size=cap*k) (hcap:m'<=cap)
  (hother:∀x,x≠b->x<w.heap.size->w'.heap[x]?=w.heap[x]?) (hsize:w.heap.size<=w'.heap.size) (hbs:w'.heap.size<=max w.heap.size (b+1))
  (hcase:w.heap.size<=b\/(blkOf j t (.tok k m E)=some b/\∀o,o<j.F b->w'.cell? ⟨b,o,none⟩=w.cell? ⟨b,o,none⟩))
  (hos:w'.os=w.os) (htape:w'.tape=w.tape) (hout:Outs w w') (hE:∀T,E=some T->e=T:=by intro T h; cases h) :
  HL (j.retok t ⟨some (b,cap),m'⟩ b (m'*k)) w' jl ls (h.set t (some (.tok k m' E))) /\
   Evolve j w (Own j h jl) (j.retok t ⟨some (b,cap),m'⟩ b (m'*k)) w' (Own (j.retok t ⟨some (b,cap),m'⟩ b (m'*k)) (h.set t (some (.tok k m' E))) jl):=by
 obtain⟨htn,blk,htok,hblk,_⟩:=hl.1.obj t _ ht;have hFb:j.F b<=m'*k:=by
  rcases hcase with hc|⟨hc,_⟩
  ·rw [hl.1.fresh b hc]; exact Nat.zero_le _
  ·simp only [blkOf,htok,Option.bind_some] at hc;cases blk with
   | none=>simp at hc
   | some bc =>
    obtain⟨b',cap'⟩:=bc;simp only [Option.map_some,Option.some.injEq] at hc;subst hc;obtain⟨_,_,_,_,h3,_⟩:=hblk _ _ rfl;rw [h3]; exact Nat.mul_le_mul_right _ (Nat.le_of_lt hm)
 have hle:Le j w (j.retok t ⟨some (b,cap),m'⟩ b (m'*k)) w':=by
  refine⟨Nat.le_refl _,fun _ _=>rfl,fun x=>?_,fun x o ho=>?_,fun x hx=>?_⟩
  ·simp only [J.retok]; split
   ·rename_i c; rw [c]; exact hFb
   ·exact Nat.le_refl _
  ·by_cases c:x=b
   ·subst c;rcases hcase with hc|⟨_,hc⟩
    ·rw [hl.1.fresh x hc] at ho; omega
    ·exact hc o ho
   ·refine cell?_eq (hother x c ?_);rcases Nat.lt_or_ge x w.heap.size with h1|h1
    ·exact h1
    ·rw [hl.1.fresh x h1] at ho; omega
  ·by_cases c:x=t
   ·subst c; exact .inr ⟨_,⟨some (b,cap),m'⟩,htok,by simp [J.retok],hm⟩
   ·exact .inl (by simp [J.retok,c])
 -- the others' blocks are not b
 have hsepO:∀n q x,h n=some q->n≠t->blkOf j n q=some x->x≠b:=fun n q x hn hne hx c=>by
  subst c;rcases hcase with hc|⟨hc,_⟩
  ·have:=Own.lt hl (.inr ⟨n,q,hn,hx⟩); omega
  ·exact hne (hl.1.inj n q t _ x hn ht hx hc)
 have hsepL:∀x,x∈jl->x≠b:=fun x hx c=>by
  subst c;rcases hcase with hc|⟨hc,_⟩
  ·have:=Own.lt hl (.inl hx); omega
  ·exact hl.2.apart x hx (.inr ⟨t,_,ht,hc⟩)
 have hF:∀x,x≠b->(j.retok t ⟨some (b,cap),m'⟩ b (m'*k)).F x=j.F x:=fun x hx=>by simp [J.retok,hx]
 have hkeep:∀n q,h n=some q->n≠t->ORel (j.retok t ⟨some (b,cap),m'⟩ b (m'*k)) w' n q/\blkOf (j.retok t ⟨some (b,cap),m'⟩ b (m'*k)) n q=blkOf j n q:=fun n q hn hne =>
  (hl.1.obj n q hn).2.keep hle (hl.1.obj n q hn).1 (fun x hx=>⟨hother x (hsepO n q x hn hne hx) (Own.lt hl (.inr ⟨n,q,hn,hx⟩)),hF x (hsepO n q x hn hne hx)⟩)
   (fun _=>by simp [J.retok,hne])
 have hnew:blkOf (j.retok t ⟨some (b,cap),m'⟩ b (m'*k)) t (.tok k m' E)=some b:=by simp [blkOf,J.retok]
 have hown:∀jl x,Own (j.retok t ⟨some (b,cap),m'⟩ b (m'*k)) (h.set t (some (.tok k m' E))) jl x->x=b\/Own j h jl x:=by
  rintro jl x (hx|⟨n,q,hn,hx⟩)
  ·exact .inr (.inl hx)
  ·by_cases c:n=t
   ·subst c; rw [Heap.set_same] at hn; simp only [Option.some.injEq] at hn; subst hn;rw [hnew] at hx; simp only [Option.some.injEq] at hx; exact .inl hx.symm
   ·rw [Heap.set_other h _ c] at hn;exact .inr (.inr ⟨n,q,hn,(hkeep n q hn c).2▸hx⟩)
 refine⟨⟨⟨fun n q hn=>?_,fun n1 q1 n2 q2 x h1 h2 e1 e2=>?_,fun x hx=>?_⟩,
  ⟨all2_imp_mem hl.2.each fun xs x hx h=>h.keep hle ⟨hother x (hsepL x hx) (Own.lt hl (.inl hx)),hF x (hsepL x hx)⟩,hl.2.nodup,fun x hx ho=>?_⟩⟩, ?_⟩
 ·by_cases c:n=t
  ·subst c; rw [Heap.set_same] at hn; simp only [Option.some.injEq] at hn; subst hn;refine⟨htn,some (b,cap),by simp [J.retok],fun b' cap' e'=>?_,fun _ h=>by cases h⟩;simp only [Option.some.injEq,Prod.mk.injEq] at e';obtain⟨rfl,rfl⟩:=e';exact⟨cs,e,hb,hsz,by simp [J.retok],hcap,hE⟩
  ·rw [Heap.set_other h _ c] at hn;exact⟨(hl.1.obj n q hn).1,(hkeep n q hn c).1⟩
 ·by_cases c1:n1=t<;>by_cases c2:n2=t
  ·omega
  ·subst c1; rw [Heap.set_same] at h1; simp only [Option.some.injEq] at h1; subst h1;rw [Heap.set_other h _ c2] at h2;rw [hnew] at e1; simp only [Option.some.injEq] at e1;exact absurd e1.symm (hsepO n2 q2 x h2 c2 ((hkeep n2 q2 h2 c2).2▸e2))
  ·subst c2; rw [Heap.set_same] at h2; simp only [Option.some.injEq] at h2; subst h2;rw [Heap.set_other h _ c1] at h1;rw [hnew] at e2; simp only [Option.some.injEq] at e2;exact absurd e2.symm (hsepO n1 q1 x h1 c1 ((hkeep n1 q1 h1 c1).2▸e1))
  ·rw [Heap.set_other h _ c1] at h1; rw [Heap.set_other h _ c2] at h2;exact hl.1.inj n1 q1 n2 q2 x h1 h2 ((hkeep n1 q1 h1 c1).2▸e1) ((hkeep n2 q2 h2 c2).2▸e2)
 ·have hbl:=lt_of_heap hb;rw [hF x (by omega)];exact hl.1.fresh x (by omega)
 ·rcases hown [] x ho with c|c
  ·exact hsepL x hx c
  ·exact hl.2.apart x hx c
 ·refine { toLe:=hle,size:=hsize,frame:=fun x hx hn=>?_,own:=fun x hx ho=>?_,os:=hos,tape:=htape,output:=hout }
  ·have hne:x≠b:=fun c=>by
    subst c;rcases hcase with hc|⟨hc,_⟩
    ·omega
    ·exact hn (.inr ⟨t,_,ht,hc⟩)
   exact⟨hother x hne hx,hF x hne⟩
  ·rcases hown jl x ho with c|c
   ·subst c;rcases hcase with hc|⟨hc,_⟩
    ·omega
    ·exact .inr ⟨t,_,ht,hc⟩
   ·exact c

theorem HL.bornMap {j:J}{w:World}{jl:List Nat}{ls:List (List D)}{h:Heap}(hl:HL j w jl ls h){t k:Nat}(ht:h t=some (.tok k 0)) :
  HL (j.retok t ⟨some (w.heap.size,0),1⟩ w.heap.size 0) (w.alloc (.map #[] 0)) jl ls (h.set t (some (.map []))) /\
   Evolve j w (Own j h jl) (j.retok t ⟨some (w.heap.size,0),1⟩ w.heap.size 0) (w.alloc (.map #[] 0)) (Own (j.retok t ⟨some (w.heap.size,0),1⟩ w.heap.size 0) (h.set t (some (.map []))) jl) /\
   VRel (j.retok t ⟨some (w.heap.size,0),1⟩ w.heap.size 0) (w.alloc (.map #[] 0)) jl (.a (.d (.map t))) (.map (some w.heap.size)):=by
 obtain⟨htn,blk,htok,hblk,_⟩:=hl.1.obj t _ ht;have hF0:j.F w.heap.size=0:=hl.1.fresh _ (Nat.le_refl _);have hother:∀x,x<w.heap.size->(w.alloc (.map #[] 0)).heap[x]?=w.heap[x]?:=fun x hx=>heap_alloc_ne hx;generalize hj':j.retok t ⟨some (w.heap.size,0),1⟩ w.heap.size 0=j';have hFx:∀x,j'.F x=j.F x:=fun x=>by
  subst hj'; simp only [J.retok]; split
  ·rename_i c; rw [c,hF0]
  ·rfl
 have hnx:j'.next=j.next:=by subst hj'; rfl
 have htk:j'.tok t=some ⟨some (w.heap.size,0),1⟩:=by subst hj'; simp [J.retok]
 have hto:∀x,x≠t->j'.tok x=j.tok x:=fun x hx=>by subst hj'; simp [J.retok,hx]
 have hle:Le j w j' (w.alloc (.map #[] 0)):=by
  refine⟨by rw [hnx]; exact Nat.le_refl _,fun _ _=>by subst hj'; rfl,fun x=>by rw [hFx]; exact Nat.le_refl _,fun x o ho=>?_,fun x hx=>?_⟩
  ·refine cell?_eq (hother x ?_);rcases Nat.lt_or_ge x w.heap.size with h1|h1
   ·exact h1
   ·rw [hl.1.fresh x h1] at ho; omega
  ·by_cases c:x=t
   ·subst c; exact .inr ⟨_,_,htok,htk,Nat.zero_lt_one⟩
   ·exact .inl (hto x c)
 have hsepO:∀n q x,h n=some q->blkOf j n q=some x->x<w.heap.size:=fun n q x hn hx=>Own.lt hl (.inr ⟨n,q,hn,hx⟩);have hsepL:∀x,x∈jl->x<w.heap.size:=fun x hx=>Own.lt hl (.inl hx);have hkeep:∀n q,h n=some q->n≠t->ORel j' (w.alloc (.map #[] 0)) n q/\blkOf j' n q=blkOf j n q:=fun n q hn hne =>
  (hl.1.obj n q hn).2.keep hle (hl.1.obj n q hn).1 (fun x hx=>⟨hother x (hsepO n q x hn hx),hFx x⟩) (fun _=>hto n hne)
 have hnew:blkOf j' t (.map [])=some w.heap.size:=by simp [blkOf,htk]
 have hown:∀jl x,Own j' (h.set t (some (.map []))) jl x->x=w.heap.size\/Own j h jl x:=by
  rintro jl x (hx|⟨n,q,hn,hx⟩)
  ·exact .inr (.inl hx)
  ·by_cases c:n=t
   ·subst c; rw [Heap.set_same] at hn; simp only [Option.some.injEq] at hn; subst hn;rw [hnew] at hx; simp only [Option.some.injEq] at hx; exact .inl hx.symm
   ·rw [Heap.set_other h _ c] at hn;exact .inr (.inr ⟨n,q,hn,(hkeep n q hn c).2▸hx⟩)
 refine⟨⟨⟨fun n q hn=>?_,fun n1 q1 n2 q2 x h1 h2 e1 e2=>?_,fun x hx=>?_⟩,
  ⟨all2_imp_mem hl.2.each fun xs x hx h=>h.keep hle ⟨hother x (hsepL x hx),hFx x⟩,hl.2.nodup,fun x hx ho=>?_⟩⟩, ?_, ?_⟩
 ·rw [hnx];by_cases c:n=t
  ·subst c; rw [Heap.set_same] at hn; simp only [Option.some.injEq] at hn; subst hn;exact⟨htn,w.heap.size,0,[],0,htk,heap_alloc_new w _,.nil,by rw [hFx]; exact hF0,List.nodup_nil,(fun _ h=>by cases h),List.nodup_nil⟩
  ·rw [Heap.set_other h _ c] at hn;exact⟨(hl.1.obj n q hn).1,(hkeep n q hn c).1⟩
 ·by_cases c1:n1=t<;>by_cases c2:n2=t
  ·omega
  ·subst c1; rw [Heap.set_same] at h1; simp only [Option.some.injEq] at h1; subst h1;rw [Heap.set_other h _ c2] at h2;rw [hnew] at e1; simp only [Option.some.injEq] at e1;have:=hsepO n2 q2 x h2 ((hkeep n2 q2 h2 c2).2▸e2); omega
  ·subst c2; rw [Heap.set_same] at h2; simp only [Option.some.injEq] at h2; subst h2;rw [Heap.set_other h _ c1] at h1;rw [hnew] at e2; simp only [Option.some.injEq] at e2;have:=hsepO n1 q1 x h1 ((hkeep n1 q1 h1 c1).2▸e1); omega
  ·rw [Heap.set_other h _ c1] at h1; rw [Heap.set_other h _ c2] at h2;exact hl.1.inj n1 q1 n2 q2 x h1 h2 ((hkeep n1 q1 h1 c1).2▸e1) ((hkeep n2 q2 h2 c2).2▸e2)
 ·rw [hFx];simp only [World.size_alloc] at hx;exact hl.1.fresh x (by omega)
 ·rcases hown [] x ho with c|c
  ·have:=hsepL x hx; omega
  ·exact hl.2.apart x hx c
 ·refine { toLe:=hle,size:=(by simp),frame:=fun x hx hn=>⟨hother x hx,hFx x⟩,own:=fun x hx ho=>?_,os:=rfl,tape:=rfl,output:=Outs.rfl };rcases hown jl x ho with c|c
  ·omega
  ·exact c
 ·show DRel j' (w.alloc (.map #[] 0)) (.map t) (.map (some w.heap.size));refine .map t w.heap.size (by rw [hnx]; exact htn) fun tk hk=>?_;rw [htk] at hk;obtain rfl:=Option.some.inj hk;exact⟨Nat.le_refl _,fun _=>⟨0,rfl⟩⟩

end Go.Ab

/-
 The abstract state of a running function,one operation,a region in the order of its text.
-/
namespace Go.Ab
open Go Go.RowKit
variable {lou:Lou}

class Amb where
 ds:List Deferred
instance (priority:=low) Amb.nothing:Amb:=⟨[]⟩
variable {amb:Amb}


abbrev Ts:=List (Nat×V)
def get:Ts->Nat->V
 | [],_=>.any
 | (k,v)::r,n=>bif Nat.beq k n then v else get r n

theorem get_same (k:Nat) (v:V) (r:Ts):get ((k,v)::r) k=v:=by simp [get]
theorem get_other {k n:Nat}(v:V) (r:Ts) (h:k≠n):get ((k,v)::r) n=get r n:=by
 have:Nat.beq k n=false:=Bool.eq_false_iff.2 fun e=>h (Nat.eq_of_beq_eq_true e);simp [get,this]

structure St where
 n:Nat
 ts:Ts
 ls:List (List D)
 h:Heap

def cvalD:Value->Option D
 | .bool b=>some (.bool b)
 | .int k n=>some (.int k n)
 | .string s=>bif Nat.ble s.data.toList.length maxS then some (.str s.data.toList) else none
 | .slice none 0 0=>some (.slice 0 none true [])
 | .pointer none=>some .nilptr
 | .map none=>some .nilmap
 | .nilFunc=>some .nilFunc
 | .nilIface=>some .nilIface
 | _=>none

def cval (v:Value):V :=
 match cvalD v with
 | some x=>.a (.d x)
 | none=>.any

def ev (ts:Ts):Operand->V
 | .tmp t=>get ts t
 | .const v=>cval v
 | .global _=>.any
 | .func f=>.a (.d (.func f []))

theorem cvalD_rel (j:J) (w:World) (v:Value) (x:D) (h:cvalD v=some x):DRel j w x v:=by
 unfold cvalD at h
 split at h<;>simp at h
 ·subst h; exact .bool _
 ·subst h; exact .int _ _
 ·rename_i s
  cases c:Nat.ble s.size maxS with
  | false=>rw [c] at h; simp at h
  | true =>
   rw [c] at h; simp at h;subst h;have:=DRel.str (j:=j) (w:=w) s.data.toList (by simpa using Nat.le_of_ble_eq_true c)
   simpa using this
 ·subst h; exact .snil _ _ (by simp)
 ·subst h; exact .nilptr
 ·subst h; exact .nilmap
 ·subst h; exact .nilFunc
 ·subst h; exact .nilIface

theorem ev_rel {j:J}{w:World}{jl:List Nat}{ts:Ts}{a:Act}(h:∀k,VRel j w jl (get ts k) (a.tmps.getD k undef)) (x:Operand):VRel j w jl (ev ts x) (a.eval x):=by
 cases x with
 | tmp t=>exact h t
 | const v =>
  simp only [ev,cval,Act.eval]
  split
  ·rename_i x hx; exact cvalD_rel j w v x hx
  ·trivial
 | global g=>trivial
 | func f=>exact DRel.func f [] [] rfl (by simp)

structure SRel [Amb] (j:J) (w:World) (jl:List Nat) (σ:St) (a:Act):Prop where
 defers:a.defers=Amb.ds
 size:a.tmps.size=σ.n
 tmps:∀k,VRel j w jl (get σ.ts k) (a.tmps.getD k undef)
 hl:HL j w jl σ.ls σ.h

structure Fx where
 rl:Bool:=false
 wl:Bool:=false
 rh:Bool:=false
 wh:Bool:=false
 nu:Bool:=false

def StepE [Lou] (P:Program) (o:Oper) (ts:Ts) (ls:List (List D)) (h:Heap) (R:V->List (List D)->Heap->Prop):Prop :=
 ∀(j:J) (w:World) (jl:List Nat) (a:Act),HL j w jl ls h->(∀x,x∈o.op.operands->VRel j w jl (ev ts x) (a.eval x)) ->
  ∀(K:Act->World->Prop) (Q:Exit->Act->World->Prop),
   (∀v ls' h' cv j' w' jl',R v ls' h'->VRel j' w' jl' v cv->HL j' w' jl' ls' h'->Ext jl jl'->Evolve j w (Own j h jl) j' w' (Own j' h' jl')->K (a.put o.dst cv) w')->o.wp P a w K Q

def Cert [Lou] (P:Program) (o:Oper) (ts:Ts) (ls:List (List D)) (h:Heap) (fx:Fx) (v:V) (ls':List (List D)) (h':Heap):Prop :=
 ∀L H,((fx.rl||fx.wl)=true->L=ls)->((fx.rh||fx.wh)=true->H=h) ->
  StepE P o ts L H fun u l k=>u=v/\l=(bif fx.wl then ls' else L)/\k=(bif fx.wh then h' else H)

theorem Cert.step {P:Program}{o:Oper}{ts:Ts}{ls ls':List (List D)}{h h':Heap}{fx:Fx}{v:V}(hc:Cert P o ts ls h fx v ls' h') :
  StepE P o ts ls h fun u l k=>u=v/\l=(bif fx.wl then ls' else ls)/\k=(bif fx.wh then h' else h) :=
 hc ls h (fun _=>rfl) (fun _=>rfl)

theorem StepE.mono {P:Program}{o:Oper}{ts:Ts}{ls:List (List D)}{h:Heap}{R R':V->List (List D)->Heap->Prop}(hs:StepE P o ts ls h R) (hr:∀v l k,R v l k->R' v l k):StepE P o ts ls h R' :=
 fun j w jl a hl ho K Q hk=>hs j w jl a hl ho K Q fun v ls' h' cv j' w' jl' r=>hk v ls' h' cv j' w' jl' (hr _ _ _ r)

def putTs (dst:Option Tmp) (v:V) (ts:Ts):Ts :=
 match dst with
 | some d=>(d,v)::ts
 | none=>ts

def okDst (dst:Option Tmp) (n:Nat):Bool :=
 match dst with
 | some d=>Nat.blt d n
 | none=>true

theorem put_rel {j:J}{w:World}{jl:List Nat}{ts:Ts}{a:Act}{n:Nat}(hs:a.tmps.size=n) (h:∀k,VRel j w jl (get ts k) (a.tmps.getD k undef)){dst:Option Tmp}(hd:okDst dst n=true)
  {v:V}{cv:Value}(hv:VRel j w jl v cv):∀k,VRel j w jl (get (putTs dst v ts) k) ((a.put dst cv).tmps.getD k undef):=by
 intro k;cases dst with
 | none=>exact h k
 | some d =>
  simp only [putTs,Act.put];have hlt:d<a.tmps.size:=by
   have:Nat.blt d n=true:=hd;rw [hs]; simpa [Nat.blt_eq] using this
  by_cases e:d=k
  ·subst e;rw [get_same]
   simpa [Array.getD_eq_getD_getElem?,hlt] using hv
  ·rw [get_other _ _ e];have:=h k
   simpa [Array.getD_eq_getD_getElem?,Array.getElem?_setIfInBounds,e] using this

theorem put_size (a:Act) (dst:Option Tmp) (v:Value):(a.put dst v).tmps.size=a.tmps.size:=by cases dst<;>simp [Act.put]
theorem put_defers (a:Act) (dst:Option Tmp) (v:Value):(a.put dst v).defers=a.defers:=by cases dst<;>rfl

theorem SRel.put {j j':J}{w w':World}{jl jl':List Nat}{σ:St}{a:Act}(h:SRel j w jl σ a) (hle:Le j w j' w') (hx:Ext jl jl'){dst:Option Tmp}(hd:okDst dst σ.n=true)
  {v:V}{cv:Value}(hv:VRel j' w' jl' v cv){ls':List (List D)}{h':Heap}(hl:HL j' w' jl' ls' h'):SRel j' w' jl' ⟨σ.n,putTs dst v σ.ts,ls',h'⟩ (a.put dst cv) :=
 ⟨by rw [put_defers]; exact h.defers,by rw [put_size]; exact h.size,put_rel h.size (fun k=>(h.tmps k).mono hle hx) hd hv,hl⟩

def guardOf (ops:Array Oper) (o:Oper):Option (Nat×Bool) :=
 match o.guard with
 | none=>none
 | some (g,want)=>match (ops[g]?).bind (·.dst) with
  | some d=>some (d,want)
  | none=>none

theorem wanted_none {ops:Array Oper}{o:Oper}{tmps:Array Value}(h:o.guard=none):Region.wanted o (yielded ops tmps)=true:=by simp [Region.wanted,h]
theorem wanted_some {j:J}{w:World}{jl:List Nat}{ts:Ts}{a:Act}{ops:Array Oper}{o:Oper}{d:Nat}{want b:Bool}(hg:guardOf ops o=some (d,want))
  (hd:get ts d=.a (.d (.bool b))) (h:VRel j w jl (get ts d) (a.tmps.getD d undef)):Region.wanted o (yielded ops a.tmps)=(b==want):=by
 unfold guardOf at hg;rw [hd] at h;have hv:a.tmps.getD d undef=.bool b:=by
  have h':DRel j w (.bool b) (a.tmps.getD d undef):=h;generalize a.tmps.getD d undef=x at h';cases h'; rfl
 have hs:a.tmps[d]?=some (.bool b):=by
  rw [Array.getD_eq_getD_getElem?] at hv;cases e:a.tmps[d]? with
  | none=>rw [e] at hv; simp [undef] at hv
  | some x=>rw [e] at hv; simp at hv; rw [hv]
 split at hg
 ·simp at hg
 ·rename_i g wnt hgd
  split at hg
  ·rename_i d' hd'
   simp only [Option.some.injEq,Prod.mk.injEq] at hg;obtain⟨rfl,rfl⟩:=hg;simp only [Region.wanted,hgd,yielded,hd',Option.bind_some,hs];cases b<;>cases wnt<;>rfl
  ·simp at hg

def AOps [Lou] [Amb] (P:Program) (ops:Array Oper) (l:List Oper) (Q:St->Prop) (σ:St):Prop :=
 ∀(j:J) (w:World) (jl:List Nat) (a:Act),SRel j w jl σ a->∀(Qc:Exit->Act->World->Prop),
  (∀σ' j' w' jl' a',Q σ'->SRel j' w' jl' σ' a'->Evolve j w (Own j σ.h jl) j' w' (Own j' σ'.h jl')->Qc .normal a' w')->wpList P ops Qc l a w

section
variable {P:Program}{ops:Array Oper}{rest:List Oper}{o:Oper}{Q:St->Prop}{n:Nat}{ts:Ts}{ls:List (List D)}{h:Heap}

theorem AOps.nil {σ:St}(hq:Q σ):AOps P ops [] Q σ:=fun _ _ _ _ hs _ hk=>hk _ _ _ _ _ hq hs (Evolve.refl _ _ _)

theorem AOps.run {R:V->List (List D)->Heap->Prop}(hs:StepE P o ts ls h R) (hd:okDst o.dst n=true)
  (hr:∀v ls' h',R v ls' h'->AOps P ops rest Q ⟨n,putTs o.dst v ts,ls',h'⟩)
  {j:J}{w:World}{jl:List Nat}{a:Act}(hsr:SRel j w jl ⟨n,ts,ls,h⟩ a) (hwant:Region.wanted o (yielded ops a.tmps)=true) (Qc:Exit->Act->World->Prop)
  (hk:∀σ' j' w' jl' a',Q σ'->SRel j' w' jl' σ' a'->Evolve j w (Own j h jl) j' w' (Own j' σ'.h jl')->Qc .normal a' w'):wpList P ops Qc (o::rest) a w:=by
 refine wpList_step fun K hK=>?_;rw [if_pos hwant];refine hs j w jl a hsr.hl (fun x _=>ev_rel hsr.tmps x) K Qc fun v ls' h' cv j' w' jl' r hv hl hx hev=>hK _ _ ?_;exact hr v ls' h' r j' w' jl' _ (hsr.put hev.toLe hx hd hv hl) Qc fun σ' j2 w2 jl2 a2 hq hs2 hev2=>hk σ' j2 w2 jl2 a2 hq hs2 (hev.trans hev2)

theorem AOps.stepE {R:V->List (List D)->Heap->Prop}(hs:StepE P o ts ls h R) (hg:o.guard=none) (hd:okDst o.dst n=true)
  (hr:∀v ls' h',R v ls' h'->AOps P ops rest Q ⟨n,putTs o.dst v ts,ls',h'⟩):AOps P ops (o::rest) Q ⟨n,ts,ls,h⟩ :=
 fun _ _ _ _ hsr Qc hk=>AOps.run hs hd hr hsr (wanted_none hg) Qc hk

theorem AOps.step {fx:Fx}{v:V}{ls':List (List D)}{h':Heap}(hs:Cert P o ts ls h fx v ls' h') (hg:o.guard=none) (hd:okDst o.dst n=true)
  (hr:AOps P ops rest Q ⟨n,putTs o.dst v ts,(bif fx.wl then ls' else ls),(bif fx.wh then h' else h)⟩):AOps P ops (o::rest) Q ⟨n,ts,ls,h⟩ :=
 AOps.stepE hs.step hg hd fun _ _ _ ⟨e1,e2,e3⟩=>by rw [e1,e2,e3]; exact hr

end
end Go.Ab

/-
 A region that draws its order: one walk in the order of the text serves every order,where what is not ordered does not meet.
-/
namespace Go.Ab
open Go Go.RowKit
variable {lou:Lou}

def CertG [Lou] (P:Program) (ops:Array Oper) (n:Nat) (o:Oper) (ts:Ts) (ls:List (List D)) (h:Heap) (fx:Fx) (v:V) (ls':List (List D)) (h':Heap):Prop :=
 okDst o.dst n=true/\∀L H,((fx.rl||fx.wl)=true->L=ls)->((fx.rh||fx.wh)=true->H=h) ->
  ∀(j:J) (w:World) (jl:List Nat) (a:Act),HL j w jl L H->(∀t,t∈o.looksAt ops->VRel j w jl (get ts t) (a.tmps.getD t undef)) ->
   ∀(K:Act->World->Prop) (Q:Exit->Act->World->Prop),
    (∀cv j' w' jl',VRel j' w' jl' v cv->HL j' w' jl' (bif fx.wl then ls' else L) (bif fx.wh then h' else H)->Ext jl jl' ->
     Evolve j w (Own j H jl) j' w' (Own j' (bif fx.wh then h' else H) jl')->K (a.put o.dst cv) w') ->
    if Region.wanted o (yielded ops a.tmps) then o.wp P a w K Q else K (a.put o.dst undef) w

theorem ev_rel_looks {j:J}{w:World}{jl:List Nat}{ts:Ts}{a:Act}{ops:Array Oper}{o:Oper}(h:∀t,t∈o.looksAt ops->VRel j w jl (get ts t) (a.tmps.getD t undef)) :
  ∀x,x∈o.op.operands->VRel j w jl (ev ts x) (a.eval x):=by
 intro x hx;cases x with
 | tmp t=>exact h t (by simp only [Oper.looksAt,List.mem_append,List.mem_filterMap]; exact .inl ⟨.tmp t,by simpa using hx,rfl⟩)
 | const v=>exact ev_rel (ts:=[]) (a:=⟨#[],[]⟩) (fun _=>trivial) (.const v)
 | global g=>trivial
 | func f=>exact ev_rel (ts:=[]) (a:=⟨#[],[]⟩) (fun _=>trivial) (.func f)

theorem guard_looks {ops:Array Oper}{o:Oper}{d:Nat}{want:Bool}(hg:guardOf ops o=some (d,want)):d∈o.looksAt ops:=by
 unfold guardOf at hg
 split at hg
 ·simp at hg
 ·rename_i g wnt hgd
  split at hg
  ·rename_i d' hd'
   simp only [Option.some.injEq,Prod.mk.injEq] at hg;obtain⟨rfl,rfl⟩:=hg;simp only [Oper.looksAt,hgd,List.mem_append]
   right
   rw [hd']; simp
  ·simp at hg

section
variable {P:Program}{ops:Array Oper}{o:Oper}{n:Nat}{ts:Ts}{ls ls':List (List D)}{h h':Heap}{fx:Fx}{v:V}

theorem CertG.plain (hs:Cert P o ts ls h fx v ls' h') (hg:o.guard=none) (hd:okDst o.dst n=true):CertG P ops n o ts ls h fx v ls' h':=by
 refine⟨hd,fun L H hL hH j w jl a hl ho K Q hk=>?_⟩;rw [if_pos (wanted_none hg)];exact hs L H hL hH j w jl a hl (ev_rel_looks ho) K Q fun _ _ _ cv j' w' jl' ⟨e1,e2,e3⟩=>by subst e1 e2 e3; exact hk cv j' w' jl'

end

def maskOf (o:Oper) (acc:List Nat):Nat:=o.after.toList.foldl (fun s e=>bif Region.binds .any e then s ||| (2 ^ e.on) ||| acc.getD e.on 0 else s) 0
def maskTab:List Oper->List Nat->List Nat
 | [],acc=>acc
 | o::r,acc=>maskTab r (acc++[maskOf o acc])

theorem maskTab_spec:∀(l:List Oper) (acc:List Nat),(maskTab l acc).length=acc.length+l.length/\(maskTab l acc).take acc.length=acc /\
  ∀k o,l[k]?=some o->(maskTab l acc)[acc.length+k]?=some (maskOf o ((maskTab l acc).take (acc.length+k)))
 | [],acc=>by simp [maskTab]
 | o::r,acc=>by
  obtain⟨h1,h2,h3⟩:=maskTab_spec r (acc++[maskOf o acc]);simp only [List.length_append,List.length_cons,List.length_nil] at h1 h2 h3;have h2':(maskTab r (acc++[maskOf o acc])).take acc.length=acc:=by
   have:=congrArg (List.take acc.length) h2;rw [List.take_take] at this
   simpa using this
  refine⟨by simp only [maskTab]; rw [h1]; simp; omega,h2',fun k o' hk=>?_⟩;simp only [maskTab];cases k with
  | zero =>
   simp only [List.getElem?_cons_zero,Option.some.injEq] at hk;subst hk;rw [Nat.add_zero,h2'];have h4:((maskTab r (acc++[maskOf o acc])).take (acc.length+(0+1)))[acc.length]?=(acc++[maskOf o acc])[acc.length]?:=by rw [h2]
   rw [List.getElem?_take_of_lt (by omega)] at h4;rw [h4]; simp
  | succ k =>
   simp only [List.getElem?_cons_succ] at hk;have:=h3 k o' hk;have e:acc.length+(0+1)+k=acc.length+(k+1):=by omega
   rw [e] at this;exact this

theorem foldl_mask (acc:List Nat) (p:Nat):∀(es:List Edge) (s:Nat),(es.foldl (fun s e=>bif Region.binds .any e then s ||| (2 ^ e.on) ||| acc.getD e.on 0 else s) s).testBit p=true ->
  s.testBit p=true\/∃e,e∈es/\Region.binds .any e=true/\(p=e.on\/(acc.getD e.on 0).testBit p=true)
 | [],s,h=>.inl h
 | e::es,s,h=>by
  simp only [List.foldl_cons] at h;rcases foldl_mask acc p es _ h with h1|⟨e',h1,h2,h3⟩
  ·cases hb:Region.binds .any e with
   | false=>rw [hb] at h1; exact .inl h1
   | true =>
    rw [hb] at h1;simp only [cond_true,Nat.testBit_or,Bool.or_eq_true] at h1;rcases h1 with (h1|h1)|h1
    ·exact .inl h1
    ·exact .inr ⟨e,by simp,hb,.inl (by rw [Nat.testBit_two_pow] at h1; exact(of_decide_eq_true h1).symm)⟩
    ·exact .inr ⟨e,by simp,hb,.inr h1⟩
  ·exact .inr ⟨e',by simp [h1],h2,h3⟩

def Fx.clash (x y:Fx):Bool:=(x.wl&&(y.rl||y.wl))||(y.wl&&x.rl)||(x.wh&&(y.rh||y.wh))||(y.wh&&x.rh)
def Fx.plain (x:Fx):Fx:={ x with nu:=false }

def twinB (T:List Nat) (i k:Nat):Bool:=T.all fun m=>!m.testBit k||m.testBit i

def okAt (ops:Array Oper) (T:List Nat) (l:List (Oper×Fx)):Bool :=
 (List.range l.length).all fun k=>match l[k]? with
  | none=>true
  | some (ok,fk)=>ok.after.toList.all (fun e=>!Region.binds .any e||Nat.blt e.on k) &&
   (List.range k).all fun i=>match l[i]? with
    | none=>true
    | some (oi,fi)=>(T.getD k 0).testBit i||(oi.apart ops ok&&!fi.clash fk)||(fk.nu&&oi.apart ops ok&&twinB T i k)

def okDraw (ops:Array Oper) (fxs:List Fx):Bool:=okAt ops (maskTab ops.toList []) (ops.toList.zip fxs)

def ord (ops:Array Oper) (i k:Nat):Prop:=((maskTab ops.toList []).getD k 0).testBit i=true

def Born (P:Program) (o:Oper) (v:V) (ls ls':List (List D)):Prop :=
 ∃(z:List D) (d:Nat),o.guard=none/\o.dst=some d/\v=.lptr ls.length 0/\ls'=ls++[z] /\
  ∃(cs:List Value) (e:TypeId),(∀j w,All2 (DRel j w) z cs) /\
   ∀(a:Act) (w:World) (K:Act->World->Prop) (Q:Exit->Act->World->Prop),K (a.put o.dst (.pointer (some ⟨w.heap.size,0,none⟩))) (w.alloc (.cells cs.toArray e))->o.wp P a w K Q

def StepAt [Lou] (P:Program) (ops:Array Oper) (n:Nat) (S:Nat->St) (fx:Nat->Fx) (v:Nat->V) (k:Nat) (o:Oper):Prop :=
 CertG P ops n o (S k).ts (S k).ls (S k).h (fx k) (v k) (S (k+1)).ls (S (k+1)).h/\(S (k+1)).n=(S k).n/\(S (k+1)).ts=putTs o.dst (v k) (S k).ts /\
  ((fx k).wl=false->(S (k+1)).ls=(S k).ls)/\((fx k).wh=false->(S (k+1)).h=(S k).h) /\
  ((fx k).nu=true->(fx k).wl=true/\(fx k).wh=false/\Born P o (v k) (S k).ls (S (k+1)).ls)

def DOps [Lou] (P:Program) (ops:Array Oper) (n:Nat) (l:List Oper) (done:List Fx) (Q:St->Prop) (σ:St):Prop :=
 ∃(S:Nat->St) (fx:Nat->Fx) (v:Nat->V),S 0=σ/\(∀k o,l[k]?=some o->StepAt P ops n S fx v k o) /\
  okDraw ops (done.reverse++(List.range l.length).map fx)=true/\Q (S l.length)

theorem DOps.nil {P:Program}{ops:Array Oper}{n:Nat}{done:List Fx}{Q:St->Prop}{σ:St}(hc:okDraw ops done.reverse=true) (hq:Q σ):DOps P ops n [] done Q σ :=
 ⟨fun _=>σ,fun _=>{},fun _=>.any,rfl,by simp,by simpa using hc,hq⟩

theorem DOps.cons0 {P:Program}{ops:Array Oper}{o:Oper}{rest:List Oper}{n:Nat}{done:List Fx}{Q:St->Prop}{ts:Ts}{ls ls':List (List D)}{h h':Heap}{fx:Fx}{v:V}
  (hc:CertG P ops n o ts ls h fx v ls' h') (hb:fx.nu=true->fx.wl=true/\fx.wh=false/\Born P o v ls ls')
  (hr:DOps P ops n rest (fx::done) Q ⟨n,putTs o.dst v ts,(bif fx.wl then ls' else ls),(bif fx.wh then h' else h)⟩) :
  DOps P ops n (o::rest) done Q ⟨n,ts,ls,h⟩:=by
 obtain⟨S,f,u,h0,h1,h2,h3⟩:=hr;refine⟨fun k=>match k with|0=>⟨n,ts,ls,h⟩|k+1=>S k,fun k=>match k with|0=>fx|k+1=>f k,fun k=>match k with|0=>v|k+1=>u k,rfl, ?_, ?_,h3⟩
 ·intro k o' hk;cases k with
  | zero =>
   simp only [List.getElem?_cons_zero,Option.some.injEq] at hk;subst hk;unfold StepAt;dsimp only;rw [h0];refine⟨⟨hc.1,fun L H hL hH j w jl a hl ho K Q hk=>?_⟩,rfl,rfl,fun e=>by simp [e],fun e=>by simp [e],fun e=>?_⟩
   ·have:=hc.2 L H hL hH j w jl a hl ho K Q
    revert hk
    cases e1:fx.wl<;>cases e2:fx.wh<;>simp only [e1,e2,cond_true,cond_false] at this ⊢<;>exact this
   ·obtain⟨e1,e2,e3⟩:=hb e;exact⟨e1,e2,by rw [e1]; exact e3⟩
  | succ k =>
   simp only [List.getElem?_cons_succ] at hk;exact h1 k o' hk
 ·rw [List.length_cons,List.range_succ_eq_map,List.map_cons,List.map_map]
  simpa [Function.comp_def] using h2

theorem DOps.cons {P:Program}{ops:Array Oper}{o:Oper}{rest:List Oper}{n:Nat}{done:List Fx}{Q:St->Prop}{ts:Ts}{ls ls':List (List D)}{h h':Heap}{fx:Fx}{v:V}
  (hc:CertG P ops n o ts ls h fx v ls' h') (hr:DOps P ops n rest (fx.plain::done) Q ⟨n,putTs o.dst v ts,(bif fx.wl then ls' else ls),(bif fx.wh then h' else h)⟩) :
  DOps P ops n (o::rest) done Q ⟨n,ts,ls,h⟩ :=
 DOps.cons0 (fx:=fx.plain) hc (fun e=>by cases e) hr

theorem DOps.born {P:Program}{ops:Array Oper}{o:Oper}{rest:List Oper}{n:Nat}{done:List Fx}{Q:St->Prop}{ts:Ts}{ls ls':List (List D)}{h:Heap}{v:V}
  (hb:Born P o v ls ls') (hd:okDst o.dst n=true) (hr:DOps P ops n rest ({ wl:=true,nu:=true }::done) Q ⟨n,putTs o.dst v ts,ls',h⟩):DOps P ops n (o::rest) done Q ⟨n,ts,ls,h⟩:=by
 refine DOps.cons0 (fx:={ wl:=true,nu:=true }) (h':=h) ⟨hd,fun L H hL hH j w jl a hl ho K Q hk=>?_⟩ (fun _=>⟨rfl,rfl,hb⟩) hr;obtain⟨z,d,hg,hdd,hv,hls,cs,e,hz,hw⟩:=hb;rw [if_pos (wanted_none hg)];have hL':=hL rfl;subst hL';obtain⟨h1,h2⟩:=hl.loc cs e z (hz j w);refine hw a w K Q (hk _ j _ (jl++[w.heap.size]) ?_ ?_ (fun i x hx=>by rw [List.getElem?_append_left (List.getElem?_eq_some_iff.1 hx).1]; exact hx) h2)
 ·rw [hv]; exact⟨w.heap.size,by rw [hl.2.each.length]; simp,rfl⟩
 ·rw [hls]; exact h1

def twin (ops:Array Oper) (fx:Nat->Fx) (i k:Nat):Prop:=i<k/\(fx k).nu=true/\∃oi ok,ops[i]?=some oi/\ops[k]?=some ok/\oi.apart ops ok=true/\∀m,ord ops k m->ord ops i m
def vo (ops:Array Oper) (fx:Nat->Fx) (i k:Nat):Prop:=ord ops i k\/twin ops fx i k

section
variable {P:Program}{ops:Array Oper}{n:Nat}{S:Nat->St}{fx:Nat->Fx}{v:Nat->V}

theorem okDraw_spec (hc:okDraw ops ((List.range ops.toList.length).map fx)=true) :
  (∀k o,ops[k]?=some o->∀e,e∈o.after.toList->Region.binds .any e=true->e.on<k) /\
  (∀i k oi ok,i<k->ops[i]?=some oi->ops[k]?=some ok->vo ops fx i k\/(oi.apart ops ok=true/\(fx i).clash (fx k)=false)):=by
 have hz:∀k o,ops[k]?=some o->(ops.toList.zip ((List.range ops.toList.length).map fx))[k]?=some (o,fx k):=by
  intro k o hk;have hlt:k<ops.size:=by
   rcases Nat.lt_or_ge k ops.size with h|h
   ·exact h
   ·rw [Array.getElem?_eq_none h] at hk; simp at hk
  rw [List.getElem?_zip_eq_some];refine⟨by simpa using hk, ?_⟩;simp [hlt]
 have hlen:∀k o,ops[k]?=some o->k<(ops.toList.zip ((List.range ops.toList.length).map fx)).length:=by
  intro k o hk;have:=hz k o hk;exact(List.getElem?_eq_some_iff.1 this).1
 unfold okDraw okAt at hc;rw [List.all_eq_true] at hc;constructor
 ·intro k o hk e he hb;have:=hc k (List.mem_range.2 (hlen k o hk));rw [hz k o hk] at this;simp only [Bool.and_eq_true,List.all_eq_true] at this;have h1:=this.1 e he;rw [hb] at h1
  simpa [Nat.blt_eq] using h1
 ·intro i k oi ok hik hi hk;have:=hc k (List.mem_range.2 (hlen k ok hk));rw [hz k ok hk] at this;simp only [Bool.and_eq_true,List.all_eq_true] at this;have h1:=this.2 i (List.mem_range.2 hik);rw [hz i oi hi] at h1;simp only [Bool.or_eq_true,Bool.and_eq_true] at h1;rcases h1 with (h1|h1)|h1
  ·exact .inl (.inl h1)
  ·exact .inr ⟨h1.1,by simpa using h1.2⟩
  ·refine .inl (.inr ⟨hik,h1.1.1,oi,ok,hi,hk,h1.1.2,fun m hm=>?_⟩);have h2:=h1.2;unfold twinB at h2;rw [List.all_eq_true] at h2;unfold ord at hm ⊢;rw [List.getD_eq_getElem?_getD] at hm ⊢;cases c:(maskTab ops.toList [])[m]? with
   | none=>rw [c] at hm; simp at hm
   | some x =>
    rw [c,Option.getD_some] at hm;rw [Option.getD_some];have:=h2 x (List.mem_of_getElem? c);rw [hm] at this
    simpa using this

theorem ord_spec (hlt:∀k o,ops[k]?=some o->∀e,e∈o.after.toList->Region.binds .any e=true->e.on<k){i k:Nat}(h:ord ops i k) :
  ∃o e,ops[k]?=some o/\e∈o.after.toList/\Region.binds .any e=true/\(i=e.on\/ord ops i e.on):=by
 obtain⟨h1,h2,h3⟩:=maskTab_spec ops.toList [];simp only [List.length_nil,Nat.zero_add] at h1 h3;unfold ord at h;cases hk:ops[k]? with
 | none =>
  have:ops.toList.length<=k:=by
   rcases Nat.lt_or_ge k ops.size with c|c
   ·rw [Array.getElem?_eq_getElem c] at hk; simp at hk
   ·simpa using c
  rw [List.getD_eq_getElem?_getD,List.getElem?_eq_none (by omega)] at h;simp at h
 | some o =>
  have hm:=h3 k o (by simpa using hk);rw [List.getD_eq_getElem?_getD,hm,Option.getD_some] at h;unfold maskOf at h;rcases foldl_mask _ i _ _ h with c|⟨e,he,hb,c⟩
  ·simp at c
  ·refine⟨o,e,rfl,he,hb,c.imp id fun c=>?_⟩;have hl:=hlt k o hk e he hb;unfold ord;rw [List.getD_eq_getElem?_getD,List.getElem?_take_of_lt hl,<- List.getD_eq_getElem?_getD] at c;exact c
end

end Go.Ab

/-
 A region that draws its order: every order comes to the same end.
-/
namespace Go.Ab
open Go Go.RowKit
variable {lou:Lou}
variable {amb:Amb}

def Ran (lst:Array Bool) (i:Nat):Prop:=lst.getD i false=true

structure Inv [Lou] [Amb] (ops:Array Oper) (S:Nat->St) (fx:Nat->Fx) (v:Nat->V) (n:Nat) (j0:J) (w0:World) (O0:Nat->Prop) (lstP lst:Array Bool) (lim:List (Nat×Nat)) (tv:Nat->Value) (j:J) (w:World) (jl:List Nat) (a:Act):Prop where
 psize:lstP.size=ops.size
 lsize:lst.size=ops.size
 pran:∀i,Ran lstP i↔(Ran lst i\/∃b,(i,b)∈lim)
 pclosed:∀k,Ran lstP k->∀p,ord ops p k->Ran lstP p
 closed:∀k,Ran lst k->∀p,vo ops fx p k->Ran lst p
 defers:a.defers=Amb.ds
 tsize:a.tmps.size=n
 agree:∀t,(∀m b o,(m,b)∈lim->ops[m]?=some o->o.dst≠some t)->a.tmps.getD t undef=tv t
 tm:∀t,∃k,k<=ops.size/\(∀p o,ops[p]?=some o->o.dst=some t->(Ran lst p↔p<k))/\VRel j w jl (get (S k).ts t) (tv t)
 st:∃kl kh,kl<=ops.size/\kh<=ops.size/\(∀p,p<ops.size->(fx p).wl=true->(Ran lst p↔p<kl))/\(∀p,p<ops.size->(fx p).wh=true->(Ran lst p↔p<kh)) /\
  HL j w jl (S kl).ls (S kh).h/\Evolve j0 w0 O0 j w (Own j (S kh).h jl)/\∀m b,(m,b)∈lim->w0.heap.size<=b/\b<w.heap.size/\¬Own j (S kh).h jl b
 nd:lim.Pairwise fun x y=>x.1≠y.1/\x.2≠y.2
 lims:∀m b,(m,b)∈lim->¬Ran lst m/\(fx m).nu=true/\(∀p,ord ops p m->Ran lst p)/\∃o z d cs e,ops[m]?=some o/\o.dst=some d/\v m=.lptr (S m).ls.length 0/\(S (m+1)).ls=(S m).ls++[z] /\
  (∀j w,All2 (DRel j w) z cs)/\w.heap[b]?=some (.cells cs.toArray e (0,0))/\j.F b=0/\a.tmps.getD d undef=.pointer (some ⟨b,0,none⟩)

section
variable {P:Program}{ops:Array Oper}{n:Nat}{S:Nat->St}{fx:Nat->Fx}{v:Nat->V}

theorem same_between {α:Type}(f:Nat->α){N:Nat}(W:Nat->Prop) (hs:∀k,k<N->¬W k->f (k+1)=f k) :
  ∀(a b:Nat),a<=b->b<=N->(∀p,a<=p->p<b->¬W p)->f b=f a:=by
 intro a b hab;induction b with
 | zero =>
  intro _ _;have:a=0:=by omega
  rw [this]
 | succ b ih =>
  intro hb hw;by_cases e:a=b+1
  ·rw [e]
  ·rw [hs b (by omega) (hw b (by omega) (by omega))];exact ih (by omega) (by omega) fun p h1 h2=>hw p h1 (by omega)

theorem same_cut {α:Type}(f:Nat->α){N:Nat}(W X:Nat->Prop) (hs:∀k,k<N->¬W k->f (k+1)=f k){k i:Nat}(hk:k<=N) (hi:i<=N)
  (h1:∀p,p<N->W p->(X p↔p<k)) (h2:∀p,p<N->W p->(X p↔p<i)):f k=f i:=by
 rcases Nat.le_total k i with h|h
 ·exact(same_between f W hs k i h hi fun p a b hw=>by have:=(h2 p (by omega) hw).2 b; have:=(h1 p (by omega) hw).1 this; omega).symm
 ·exact same_between f W hs i k h hk fun p a b hw=>by have:=(h1 p (by omega) hw).2 b; have:=(h2 p (by omega) hw).1 this; omega

theorem ready_spec {lst:Array Bool}{i:Nat}(h:i∈Region.ready .any ops lst) (hsz:lst.size=ops.size) :
  ∃o,ops[i]?=some o/\i<ops.size/\¬Ran lst i/\∀e,e∈o.after.toList->Region.binds .any e=true->Ran lst e.on:=by
 simp only [Region.ready,List.mem_filter,List.mem_range,Bool.and_eq_true,Bool.not_eq_true'] at h;obtain⟨hlt,h1,h2⟩:=h;refine⟨ops[i],by simp [hlt],hlt, ?_, ?_⟩
 ·unfold Ran;rw [Array.getD_eq_getD_getElem?,Array.getElem?_eq_getElem (by omega)] at h1 ⊢;simp at h1 ⊢; exact h1
 ·intro e he hb;rw [Array.getElem?_eq_getElem hlt] at h2;simp only [Option.map_some,Option.getD_some,Array.all_eq_true'] at h2;have:=h2 e (by simpa using he);rw [hb] at this
  simpa [Ran] using this

theorem Ran.set {lst:Array Bool}{i p:Nat}(hi:i<lst.size):Ran (lst.setIfInBounds i true) p↔(p=i\/Ran lst p):=by
 unfold Ran;rw [Array.getD_eq_getD_getElem?,Array.getElem?_setIfInBounds];by_cases e:i=p
 ·subst e; simp [hi]
 ·rw [if_neg e];constructor
  ·intro h; right; rw [Array.getD_eq_getD_getElem?]; exact h
  ·rintro (h|h)
   ·omega
   ·rw [Array.getD_eq_getD_getElem?] at h; exact h

variable (hlt:∀k o,ops[k]?=some o->∀e,e∈o.after.toList->Region.binds .any e=true->e.on<k)
 (hpair:∀i k oi ok,i<k->ops[i]?=some oi->ops[k]?=some ok->vo ops fx i k\/(oi.apart ops ok=true/\(fx i).clash (fx k)=false))
 (hS:∀k o,ops[k]?=some o->StepAt P ops n S fx v k o)
 {j0:J}{w0:World}{O0:Nat->Prop}

include hlt in
theorem ord_ran {lst:Array Bool}{i:Nat}{o:Oper}(ho:ops[i]?=some o) (hcl:∀k,Ran lst k->∀p,ord ops p k->Ran lst p)
  (hdep:∀e,e∈o.after.toList->Region.binds .any e=true->Ran lst e.on){p:Nat}(h:ord ops p i):Ran lst p:=by
 obtain⟨o',e,h1,h2,h3,h4⟩:=ord_spec hlt h;rw [ho] at h1; simp only [Option.some.injEq] at h1; subst h1;rcases h4 with h4|h4
 ·rw [h4]; exact hdep e h2 h3
 ·exact hcl e.on (hdep e h2 h3) p h4

include hpair in
theorem ran_iff {lst:Array Bool}{i:Nat}{o:Oper}(ho:ops[i]?=some o) (hni:¬Ran lst i) (hcl:∀k,Ran lst k->∀p,vo ops fx p k->Ran lst p)
  (hpre:∀p,vo ops fx p i->Ran lst p){p:Nat}{op:Oper}(hp:ops[p]?=some op)
  (hne1:p<i->op.apart ops o=true->(fx p).clash (fx i)=false->False) (hne2:i<p->o.apart ops op=true->(fx i).clash (fx p)=false->False):Ran lst p↔p<i:=by
 rcases Nat.lt_trichotomy p i with h|h|h
 ·refine⟨fun _=>h,fun _=>?_⟩;rcases hpair p i op o h hp ho with h1|⟨h1,h2⟩
  ·exact hpre p h1
  ·exact(hne1 h h1 h2).elim
 ·subst h; exact⟨fun h=>(hni h).elim,fun h=>by omega⟩
 ·refine⟨fun hr=>?_,fun h'=>by omega⟩;rcases hpair i p o op h ho hp with h1|⟨h1,h2⟩
  ·exact(hni (hcl p hr i h1)).elim
  ·exact(hne2 h h1 h2).elim

theorem getOps {i:Nat}(h:i<ops.size):ops[i]?=some ops[i]:=Array.getElem?_eq_getElem h
theorem ops_lt {i:Nat}{o:Oper}(h:ops[i]?=some o):i<ops.size:=by
 rcases Nat.lt_or_ge i ops.size with h'|h'
 ·exact h'
 ·rw [Array.getElem?_eq_none h'] at h; simp at h

include hS in
theorem get_step (t:Nat):∀k,k<ops.size->¬(∃o,ops[k]?=some o/\o.dst=some t)->get (S (k+1)).ts t=get (S k).ts t:=by
 intro k hk hn;rw [(hS k _ (getOps hk)).2.2.1];cases hd:(ops[k]).dst with
 | none=>rfl
 | some d =>
  simp only [putTs];exact get_other _ _ fun e=>hn ⟨_,getOps hk,by rw [hd,e]⟩

include hpair hS in
theorem cutL {lst:Array Bool}{i kl:Nat}{o:Oper}(ho:ops[i]?=some o) (hni:¬Ran lst i) (hcl:∀k,Ran lst k->∀p,vo ops fx p k->Ran lst p) (hpre:∀p,vo ops fx p i->Ran lst p)
  (hkl:kl<=ops.size) (hwl:∀p,p<ops.size->(fx p).wl=true->(Ran lst p↔p<kl)) (hr:((fx i).rl||(fx i).wl)=true):(S kl).ls=(S i).ls :=
 same_cut (fun k=>(S k).ls) (fun p=>(fx p).wl=true) (Ran lst) (fun k hk hn=>(hS k _ (getOps hk)).2.2.2.1 (by simpa using hn)) hkl (Nat.le_of_lt (ops_lt ho)) hwl fun p hp hw =>
  ran_iff hpair ho hni hcl hpre (getOps hp) (fun _ _ c=>by simp [Fx.clash] at c; simp only [Bool.or_eq_true] at hr; rcases hr with r|r<;>simp [r,hw] at c)
   (fun _ _ c=>by simp [Fx.clash] at c; simp only [Bool.or_eq_true] at hr; rcases hr with r|r<;>simp [r,hw] at c)

include hpair hS in
theorem cutH {lst:Array Bool}{i kh:Nat}{o:Oper}(ho:ops[i]?=some o) (hni:¬Ran lst i) (hcl:∀k,Ran lst k->∀p,vo ops fx p k->Ran lst p) (hpre:∀p,vo ops fx p i->Ran lst p)
  (hkh:kh<=ops.size) (hwh:∀p,p<ops.size->(fx p).wh=true->(Ran lst p↔p<kh)) (hr:((fx i).rh||(fx i).wh)=true):(S kh).h=(S i).h :=
 same_cut (fun k=>(S k).h) (fun p=>(fx p).wh=true) (Ran lst) (fun k hk hn=>(hS k _ (getOps hk)).2.2.2.2.1 (by simpa using hn)) hkh (Nat.le_of_lt (ops_lt ho)) hwh fun p hp hw =>
  ran_iff hpair ho hni hcl hpre (getOps hp) (fun _ _ c=>by simp [Fx.clash] at c; simp only [Bool.or_eq_true] at hr; rcases hr with r|r<;>simp [r,hw] at c)
   (fun _ _ c=>by simp [Fx.clash] at c; simp only [Bool.or_eq_true] at hr; rcases hr with r|r<;>simp [r,hw] at c)

include hpair in
theorem cut_set {lst:Array Bool}{i k:Nat}{o:Oper}(hil:i<lst.size) (ho:ops[i]?=some o) (hni:¬Ran lst i) (hcl:∀k,Ran lst k->∀p,vo ops fx p k->Ran lst p) (hpre:∀p,vo ops fx p i->Ran lst p)
  (W:Fx->Bool) (hW:∀x y:Fx,W x=true->W y=true->x.clash y=true) (hw:∀p,p<ops.size->W (fx p)=true->(Ran lst p↔p<k)) :
  ∀p,p<ops.size->W (fx p)=true->(Ran (lst.setIfInBounds i true) p↔p<(bif W (fx i) then i+1 else k)):=by
 intro p hp hwp;rw [Ran.set hil];by_cases e:p=i
 ·subst e; simp [hwp]
 ·simp only [e,false_or];cases hi':W (fx i) with
  | false=>simp only [cond_false]; exact hw p hp hwp
  | true =>
   simp only [cond_true];have:=ran_iff hpair ho hni hcl hpre (getOps hp) (fun _ _ c=>by rw [hW _ _ hwp hi'] at c; cases c) (fun _ _ c=>by rw [hW _ _ hi' hwp] at c; cases c);rw [this]; omega

include hpair hS in
theorem tm_set {lst:Array Bool}{i:Nat}{o:Oper}{j j':J}{w w':World}{jl jl':List Nat}{tv tv':Nat->Value}(hil:i<lst.size) (ho:ops[i]?=some o) (hni:¬Ran lst i)
  (hcl:∀k,Ran lst k->∀p,vo ops fx p k->Ran lst p) (hpre:∀p,vo ops fx p i->Ran lst p) (hle:Le j w j' w') (hx:Ext jl jl'){cv:Value}(hv:VRel j' w' jl' (v i) cv)
  (h1:∀t,o.dst=some t->tv' t=cv) (h2:∀t,o.dst≠some t->tv' t=tv t)
  (htm:∀t,∃k,k<=ops.size/\(∀p o,ops[p]?=some o->o.dst=some t->(Ran lst p↔p<k))/\VRel j w jl (get (S k).ts t) (tv t)) :
  ∀t,∃k,k<=ops.size/\(∀p o,ops[p]?=some o->o.dst=some t->(Ran (lst.setIfInBounds i true) p↔p<k))/\VRel j' w' jl' (get (S k).ts t) (tv' t):=by
 intro t;have hio:=ops_lt ho;by_cases ht:o.dst=some t
 ·refine⟨i+1,by omega,fun p op hp hd=>?_, ?_⟩
  ·rw [Ran.set hil];by_cases e:p=i
   ·subst e; simp
   ·have:=ran_iff hpair ho hni hcl hpre hp (fun _ c _=>(Oper.apart_spec c).2.1 t hd ht) (fun _ c _=>(Oper.apart_spec c).2.1 t ht hd);rw [this]; omega
  ·rw [(hS i o ho).2.2.1,ht,h1 t ht];simp only [putTs,get_same];exact hv
 ·obtain⟨k,hk',hw,hv'⟩:=htm t;refine⟨k,hk',fun p op hp hd=>?_, ?_⟩
  ·rw [Ran.set hil];have:p≠i:=fun e=>by subst e; rw [ho] at hp; simp only [Option.some.injEq] at hp; subst hp; exact ht hd
   simp only [this,false_or]; exact hw p op hp hd
  ·rw [h2 t ht]; exact hv'.mono hle hx

theorem clash_wl (x y:Fx) (hx:x.wl=true) (hy:y.wl=true):x.clash y=true:=by simp [Fx.clash,hx,hy]
theorem clash_wh (x y:Fx) (hx:x.wh=true) (hy:y.wh=true):x.clash y=true:=by simp [Fx.clash,hx,hy]

theorem closed_set {lst:Array Bool}{i:Nat}{R:Nat->Nat->Prop}(hil:i<lst.size) (hcl:∀k,Ran lst k->∀p,R p k->Ran lst p) (hpre:∀p,R p i->Ran lst p) :
  ∀k,Ran (lst.setIfInBounds i true) k->∀p,R p k->Ran (lst.setIfInBounds i true) p:=by
 intro k hr p hp;rw [Ran.set hil] at hr ⊢;rcases hr with hr|hr
 ·subst hr; exact .inr (hpre p hp)
 ·exact .inr (hcl k hr p hp)

theorem put_get (a:Act) (dst:Option Tmp) (cv:Value) (t:Nat) (h:dst≠some t):(a.put dst cv).tmps.getD t undef=a.tmps.getD t undef:=by
 cases dst with
 | none=>rfl
 | some d =>
  have:d≠t:=fun e=>h (by rw [e]);simp [Act.put,Array.getD_eq_getD_getElem?,Array.getElem?_setIfInBounds,this]
theorem put_get_same (a:Act) (t:Nat) (cv:Value) (h:t<a.tmps.size):(a.put (some t) cv).tmps.getD t undef=cv:=by
 simp [Act.put,Array.getD_eq_getD_getElem?,h]

theorem lim_apart {lst:Array Bool}{i m:Nat}{o om:Oper}(hpair:∀i k oi ok,i<k->ops[i]?=some oi->ops[k]?=some ok->vo ops fx i k\/(oi.apart ops ok=true/\(fx i).clash (fx k)=false))
  (ho:ops[i]?=some o) (hm:ops[m]?=some om) (hne:m≠i) (hnm:¬Ran lst m) (hpre:∀p,vo ops fx p i->Ran lst p) (hno:¬ord ops i m){d:Nat}(hd:om.dst=some d):d∉o.looksAt ops/\o.dst≠some d:=by
 rcases Nat.lt_or_ge m i with h|h
 ·rcases hpair m i om o h hm ho with h1|⟨h1,_⟩
  ·exact(hnm (hpre m h1)).elim
  ·exact⟨(Oper.apart_spec h1).1 d hd,fun e=>(Oper.apart_spec h1).2.1 d hd e⟩
 ·have h:i<m:=by omega
  have:o.apart ops om=true:=by
   rcases hpair i m o om h ho hm with (h1|⟨_,_,oi,ok,e1,e2,h1,_⟩)|⟨h1,_⟩
   ·exact(hno h1).elim
   ·rw [ho] at e1; rw [hm] at e2; simp only [Option.some.injEq] at e1 e2; subst e1 e2; exact h1
   ·exact h1
  exact⟨(Oper.apart_spec this).2.2 d hd,fun e=>(Oper.apart_spec this).2.1 d e hd⟩

include hlt hpair hS in
theorem run_step {lstP lst:Array Bool}{lim:List (Nat×Nat)}{tv:Nat->Value}{j:J}{w:World}{jl:List Nat}{a:Act}(hinv:Inv ops S fx v n j0 w0 O0 lstP lst lim tv j w jl a){i:Nat}{o:Oper}
  (ho:ops[i]?=some o) (hni:¬Ran lstP i) (hdep:∀e,e∈o.after.toList->Region.binds .any e=true->Ran lstP e.on) (hpre:∀p,vo ops fx p i->Ran lst p)
  {K:Act->World->Prop}{Q:Exit->Act->World->Prop}(hk:∀tv' j' w' jl' a',Inv ops S fx v n j0 w0 O0 (lstP.setIfInBounds i true) (lst.setIfInBounds i true) lim tv' j' w' jl' a'->K a' w'):wpOp P ops Q i K a w:=by
 have hio:=ops_lt ho;have hil:i<lst.size:=by rw [hinv.lsize]; exact hio
 have hilP:i<lstP.size:=by rw [hinv.psize]; exact hio
 have hni':¬Ran lst i:=fun c=>hni ((hinv.pran i).2 (.inl c));have hli:∀b,(i,b)∉lim:=fun b c=>hni ((hinv.pran i).2 (.inr ⟨b,c⟩));obtain⟨hcert,hSn,hSt,hSl,hSh,hSb⟩:=hS i o ho;obtain⟨kl,kh,hkl,hkh,hwl,hwh,hhl,hev,hlb⟩:=hinv.st;have hL:=cutL hpair hS ho hni' hinv.closed hpre hkl hwl;have hH:=cutH hpair hS ho hni' hinv.closed hpre hkh hwh;have hfree:∀m b om d,(m,b)∈lim->ops[m]?=some om->om.dst=some d->d∉o.looksAt ops/\o.dst≠some d:=fun m b om d hm hom hd =>
  lim_apart hpair ho hom (fun e=>hli b (e▸hm)) (hinv.lims m b hm).1 hpre (fun c=>hni (hinv.pclosed m ((hinv.pran m).2 (.inr ⟨b,hm⟩)) i c)) hd
 have hlooks:∀t,t∈o.looksAt ops->VRel j w jl (get (S i).ts t) (a.tmps.getD t undef):=by
  intro t ht;rw [hinv.agree t fun m b om hm hom hd=>(hfree m b om t hm hom hd).1 ht];obtain⟨k,hk,hw,hv⟩:=hinv.tm t;have:get (S k).ts t=get (S i).ts t :=
   same_cut (fun k=>get (S k).ts t) (fun p=>∃o,ops[p]?=some o/\o.dst=some t) (Ran lst) (get_step hS t) hk (Nat.le_of_lt hio) (fun p _ ⟨op,h1,h2⟩=>hw p op h1 h2) fun p _ ⟨op,h1,h2⟩ =>
    ran_iff hpair ho hni' hinv.closed hpre h1 (fun _ c _=>(Oper.apart_spec c).1 t h2 ht) (fun _ c _=>(Oper.apart_spec c).2.2 t h2 ht)
  rw [<- this]; exact hv
 have hmain:=hcert.2 (S kl).ls (S kh).h hL hH j w jl a hhl hlooks K Q fun cv j' w' jl' hv hl hx he =>
  hk (fun t=>if o.dst=some t then cv else tv t) j' w' jl' _ ?_
 ·unfold wpOp;simp only [ho]
  split
  ·rename_i hw; rw [if_pos hw] at hmain; exact .inl hmain
  ·rename_i hw; rw [if_neg hw] at hmain; exact hmain
 ·have e2:(S (bif (fx i).wh then i+1 else kh)).h=(bif (fx i).wh then(S (i+1)).h else(S kh).h):=by cases (fx i).wh<;>rfl
  refine⟨by simp [hinv.psize],by simp [hinv.lsize],fun k=>?_,closed_set hilP hinv.pclosed fun p hp=>ord_ran hlt ho hinv.pclosed hdep hp,closed_set hil hinv.closed hpre,by rw [put_defers]; exact hinv.defers,
   by rw [put_size]; exact hinv.tsize,fun t ht=>?_,tm_set hpair hS hil ho hni' hinv.closed hpre he.toLe hx hv (fun t e=>by simp [e]) (fun t e=>by simp [e]) hinv.tm, ?_,hinv.nd,fun m b hm=>?_⟩
  ·rw [Ran.set hilP,Ran.set hil,hinv.pran k];constructor
   ·rintro (h|h|h)
    ·exact .inl (.inl h)
    ·exact .inl (.inr h)
    ·exact .inr h
   ·rintro ((h|h)|h)
    ·exact .inl h
    ·exact .inr (.inl h)
    ·exact .inr (.inr h)
  ·by_cases e:o.dst=some t
   ·rw [if_pos e,e];refine put_get_same a t cv ?_;have hdst:=hcert.1;rw [e] at hdst;rw [hinv.tsize]; simpa [okDst,Nat.blt_eq] using hdst
   ·rw [if_neg e,put_get a o.dst cv t e]; exact hinv.agree t ht
  ·refine⟨(bif (fx i).wl then i+1 else kl),(bif (fx i).wh then i+1 else kh),by cases (fx i).wl<;>simp<;>omega,by cases (fx i).wh<;>simp<;>omega,
    cut_set hpair hil ho hni' hinv.closed hpre (·.wl) clash_wl hwl,cut_set hpair hil ho hni' hinv.closed hpre (·.wh) clash_wh hwh, ?_, ?_,fun m b hm=>?_⟩
   ·have e1:(S (bif (fx i).wl then i+1 else kl)).ls=(bif (fx i).wl then(S (i+1)).ls else(S kl).ls):=by cases (fx i).wl<;>rfl
    rw [e1,e2]; exact hl
   ·rw [e2]; exact hev.trans he
   ·obtain⟨g1,g2,g3⟩:=hlb m b hm;rw [e2];exact⟨g1,Nat.lt_of_lt_of_le g2 he.size,fun c=>g3 (he.own b g2 c)⟩
  ·obtain⟨g1,g2,g0,om,z,d,cs,e,g3,g4,g5,g6,g7,g8,g9,g10⟩:=hinv.lims m b hm;obtain⟨q1,q2,q3⟩:=hlb m b hm;have hf:=he.frame b q2 q3;refine⟨fun c=>?_,g2,fun p hp=>(Ran.set hil).2 (.inr (g0 p hp)),om,z,d,cs,e,g3,g4,g5,g6,g7,by rw [hf.1]; exact g8,by rw [hf.2]; exact g9, ?_⟩
   ·rcases (Ran.set hil).1 c with c|c
    ·subst c; exact hli b hm
    ·exact g1 c
   ·rw [put_get a o.dst cv d (hfree m b om d hm g3 g4).2]; exact g10

include hlt hpair hS in
theorem ahead_step {lstP lst:Array Bool}{lim:List (Nat×Nat)}{tv:Nat->Value}{j:J}{w:World}{jl:List Nat}{a:Act}(hinv:Inv ops S fx v n j0 w0 O0 lstP lst lim tv j w jl a){i:Nat}{o:Oper}
  (ho:ops[i]?=some o) (hni:¬Ran lstP i) (hdep:∀e,e∈o.after.toList->Region.binds .any e=true->Ran lstP e.on) (hpre:∀p,ord ops p i->Ran lst p) (hnu:(fx i).nu=true)
  {K:Act->World->Prop}{Q:Exit->Act->World->Prop}(hk:∀w' a' b,Inv ops S fx v n j0 w0 O0 (lstP.setIfInBounds i true) lst ((i,b)::lim) tv j w' jl a'->K a' w'):wpOp P ops Q i K a w:=by
 have hio:=ops_lt ho;have hilP:i<lstP.size:=by rw [hinv.psize]; exact hio
 have hni':¬Ran lst i:=fun c=>hni ((hinv.pran i).2 (.inl c));have hli:∀b,(i,b)∉lim:=fun b c=>hni ((hinv.pran i).2 (.inr ⟨b,c⟩));obtain⟨hcert,hSn,hSt,hSl,hSh,hSb⟩:=hS i o ho;obtain⟨hwl1,hwh1,z,d,hg,hd,hv,hls,cs,e,hz,hwp⟩:=hSb hnu;obtain⟨kl,kh,hkl,hkh,hwl,hwh,hhl,hev,hlb⟩:=hinv.st;have hdn:d<a.tmps.size:=by
  have hdst:=hcert.1;rw [hd] at hdst;rw [hinv.tsize]; simpa [okDst,Nat.blt_eq] using hdst
 have hdiff:∀m b om t,(m,b)∈lim->ops[m]?=some om->om.dst=some t->t≠d:=fun m b om t hm hom ht e=>by
  subst e;have hne:m≠i:=fun e=>hli b (e▸hm);have hno:¬ord ops i m:=fun c=>hni (hinv.pclosed m ((hinv.pran m).2 (.inr ⟨b,hm⟩)) i c);rcases Nat.lt_or_ge m i with h|h
  ·rcases hpair m i om o h hom ho with (h1|⟨_,_,oi,ok,e1,e2,h1,_⟩)|⟨h1,_⟩
   ·exact(hinv.lims m b hm).1 (hpre m h1)
   ·rw [hom] at e1; rw [ho] at e2; simp only [Option.some.injEq] at e1 e2; subst e1 e2; exact(Oper.apart_spec h1).2.1 t ht hd
   ·exact(Oper.apart_spec h1).2.1 t ht hd
  ·rcases hpair i m o om (by omega) ho hom with (h1|⟨_,_,oi,ok,e1,e2,h1,_⟩)|⟨h1,_⟩
   ·exact hno h1
   ·rw [ho] at e1; rw [hom] at e2; simp only [Option.some.injEq] at e1 e2; subst e1 e2; exact(Oper.apart_spec h1).2.1 t hd ht
   ·exact(Oper.apart_spec h1).2.1 t hd ht
 have hdata:=hhl.data (lou:=lou) (.cells cs.toArray e) 0;rw [J.frz_zero (hhl.1.fresh _ (Nat.le_refl _))] at hdata;obtain⟨hd1,hd2⟩:=hdata;unfold wpOp;simp only [ho];rw [if_pos (wanted_none hg)];refine .inl (hwp a w K Q (hk _ _ w.heap.size ?_));refine⟨by simp [hinv.psize],hinv.lsize,fun k=>?_,closed_set hilP hinv.pclosed fun p hp=>ord_ran hlt ho hinv.pclosed hdep hp,hinv.closed,by rw [put_defers]; exact hinv.defers,by rw [put_size]; exact hinv.tsize,
  fun t ht=>?_,fun t=>?_,⟨kl,kh,hkl,hkh,hwl,hwh,hd1,hev.trans hd2,fun m b hm=>?_⟩, ?_,fun m b hm=>?_⟩
 ·rw [Ran.set hilP,hinv.pran k];constructor
  ·rintro (h|h|⟨b,h⟩)
   ·exact .inr ⟨w.heap.size,by rw [h]; simp⟩
   ·exact .inl h
   ·exact .inr ⟨b,by simp [h]⟩
  ·rintro (h|⟨b,h⟩)
   ·exact .inr (.inl h)
   ·rcases List.mem_cons.1 h with h|h
    ·exact .inl (by simpa using congrArg Prod.fst h)
    ·exact .inr (.inr ⟨b,h⟩)
 ·have h1:o.dst≠some t:=ht i w.heap.size o (by simp) ho;rw [put_get a o.dst _ t h1];exact hinv.agree t fun m b om hm=>ht m b om (by simp [hm])
 ·obtain⟨k,h1,h2,h3⟩:=hinv.tm t;exact⟨k,h1,h2,h3.mono hd2.toLe (Ext.refl _)⟩
 ·rcases List.mem_cons.1 hm with h|h
  ·simp only [Prod.mk.injEq] at h;obtain⟨rfl,rfl⟩:=h;exact⟨hev.size,by simp,fun c=>Nat.lt_irrefl _ (Own.lt hhl c)⟩
  ·obtain⟨g1,g2,g3⟩:=hlb m b h;exact⟨g1,by simp; omega,g3⟩
 ·refine List.pairwise_cons.2 ⟨fun x hx=>⟨fun c=>hli x.2 (by have c:i=x.1:=c; rw [c]; exact hx),fun c=>?_⟩,hinv.nd⟩;have:=(hlb x.1 x.2 hx).2.1;simp only at c;omega
 ·rcases List.mem_cons.1 hm with h|h
  ·simp only [Prod.mk.injEq] at h;obtain⟨rfl,rfl⟩:=h;refine⟨hni',hnu,hpre,o,z,d,cs,e,ho,hd,hv,hls,hz,heap_alloc_new w _,hhl.1.fresh _ (Nat.le_refl _), ?_⟩;rw [hd]; exact put_get_same a d _ hdn
  ·obtain⟨g1,g2,g0,om,z',d',cs',e',g3,g4,g5,g6,g7,g8,g9,g10⟩:=hinv.lims m b h;obtain⟨q1,q2,q3⟩:=hlb m b h;refine⟨g1,g2,g0,om,z',d',cs',e',g3,g4,g5,g6,g7,by rw [heap_alloc_ne q2]; exact g8,g9, ?_⟩;rw [put_get a o.dst _ d' (by rw [hd]; intro c; simp only [Option.some.injEq] at c; exact hdiff m b om d' h g3 g4 c.symm)];exact g10

theorem pw_ne:∀{l:List (Nat×Nat)},l.Pairwise (fun x y=>x.1≠y.1/\x.2≠y.2)->∀{x y},x∈l->y∈l->x.1≠y.1->x.2≠y.2
 | [],_,_,_,hx,_,_=>by simp at hx
 | a::l,h,x,y,hx,hy,hn=>by
  obtain⟨h1,h2⟩:=List.pairwise_cons.1 h;rcases List.mem_cons.1 hx with ex|hx'<;>rcases List.mem_cons.1 hy with ey|hy'
  ·subst ex ey; exact(hn rfl).elim
  ·subst ex; exact(h1 y hy').2
  ·subst ey; exact(h1 x hx').2.symm
  ·exact pw_ne h2 hx' hy' hn

include hpair hS in
theorem adopt {lstP lst:Array Bool}{lim:List (Nat×Nat)}{tv:Nat->Value}{j:J}{w:World}{jl:List Nat}{a:Act}(hinv:Inv ops S fx v n j0 w0 O0 lstP lst lim tv j w jl a){m b:Nat}
  (hm:(m,b)∈lim) (hpre:∀p,vo ops fx p m->Ran lst p):∃tv',Inv ops S fx v n j0 w0 O0 lstP (lst.setIfInBounds m true) (lim.filter fun x=>x.1 != m) tv' j w (jl++[b]) a:=by
 obtain⟨hni,hnu,_,o,z,d,cs,e,ho,hd,hv,hls,hz,hb,hF,hval⟩:=hinv.lims m b hm;have hio:=ops_lt ho;have hil:m<lst.size:=by rw [hinv.lsize]; exact hio
 obtain⟨kl,kh,hkl,hkh,hwl,hwh,hhl,hev,hlb⟩:=hinv.st;obtain⟨q1,q2,q3⟩:=hlb m b hm;obtain⟨hw1,hw2,_⟩:=(hS m o ho).2.2.2.2.2 hnu;have hL:=cutL hpair hS ho hni hinv.closed hpre hkl hwl (by rw [hw1]; simp);have hx:Ext jl (jl++[b]):=fun i x hx=>by rw [List.getElem?_append_left (List.getElem?_eq_some_iff.1 hx).1]; exact hx
 have hmem:∀m' b',(m',b')∈lim.filter (fun x=>x.1 != m)->(m',b')∈lim/\m'≠m:=fun m' b' h=>by
  rw [List.mem_filter] at h; exact⟨h.1,by simpa using h.2⟩
 refine⟨fun t=>if o.dst=some t then .pointer (some ⟨b,0,none⟩) else tv t,hinv.psize,by simp [hinv.lsize],fun k=>?_,hinv.pclosed,closed_set hil hinv.closed hpre,hinv.defers,hinv.tsize,fun t ht=>?_,
  tm_set hpair hS hil ho hni hinv.closed hpre (Le.refl j w) hx (cv:=.pointer (some ⟨b,0,none⟩)) ?_ (fun t e=>by simp [e]) (fun t e=>by simp [e]) hinv.tm,
  ⟨m+1,kh,by omega,hkh, ?_,fun p hp hw=>?_, ?_,{ hev with own:=fun b' hb' ho'=>?_ },fun m' b' h=>?_⟩,hinv.nd.filter _,fun m' b' h=>?_⟩
 ·rw [Ran.set hil,hinv.pran k];constructor
  ·rintro (h|⟨b',h⟩)
   ·exact .inl (.inr h)
   ·by_cases e:k=m
    ·exact .inl (.inl e)
    ·exact .inr ⟨b',by rw [List.mem_filter]; exact⟨h,by simpa using e⟩⟩
  ·rintro ((h|h)|⟨b',h⟩)
   ·exact .inr ⟨b,h▸hm⟩
   ·exact .inl h
   ·exact .inr ⟨b',(hmem k b' h).1⟩
 ·by_cases e:o.dst=some t
  ·rw [if_pos e];rw [hd] at e;simp only [Option.some.injEq] at e;subst e;exact hval
  ·rw [if_neg e];refine hinv.agree t fun m' b' o' hm' ho'=>?_;by_cases c:m'=m
   ·subst c; rw [ho] at ho'; simp only [Option.some.injEq] at ho'; subst ho'; exact e
   ·exact ht m' b' o' (by rw [List.mem_filter]; exact⟨hm',by simpa using c⟩) ho'
 ·rw [hv];refine⟨b, ?_,rfl⟩;rw [<- hL,hhl.2.each.length]; simp
 ·have:=cut_set hpair hil ho hni hinv.closed hpre (·.wl) clash_wl hwl;rw [hw1] at this;exact this
 ·rw [Ran.set hil,<- hwh p hp hw];refine⟨fun c=>c.elim (fun e=>?_) id,.inr⟩;subst e; rw [hw2] at hw; cases hw
 ·rw [hls,<- hL];refine⟨hhl.1,hhl.2.each.append (.cons ⟨cs,e,hb,hz j w,hF⟩ .nil), ?_,fun b' hb' ho'=>?_⟩
  ·rw [List.nodup_append];refine⟨hhl.2.nodup,by simp,fun x hxm y hy=>?_⟩;simp at hy; subst hy;intro c; subst c; exact q3 (.inl hxm)
  ·rcases List.mem_append.1 hb' with h|h
   ·exact hhl.2.apart b' h ho'
   ·simp at h; subst h;rcases ho' with h|h
    ·simp at h
    ·exact q3 (.inr h)
 ·rcases ho' with h|h
  ·rcases List.mem_append.1 h with h|h
   ·exact hev.own b' hb' (.inl h)
   ·simp at h; omega
  ·exact hev.own b' hb' (.inr h)
 ·obtain⟨h1,h2⟩:=hmem m' b' h;obtain⟨g1,g2,g3⟩:=hlb m' b' h1;refine⟨g1,g2,fun c=>?_⟩;rcases c with c|c
  ·rcases List.mem_append.1 c with c|c
   ·exact g3 (.inl c)
   ·simp at c;exact pw_ne hinv.nd h1 hm h2 c
  ·exact g3 (.inr c)
 ·obtain⟨h1,h2⟩:=hmem m' b' h;obtain⟨g1,g2,g0,g3⟩:=hinv.lims m' b' h1;exact⟨fun c=>((Ran.set hil).1 c).elim h2 g1,g2,fun p hp=>(Ran.set hil).2 (.inr (g0 p hp)),g3⟩

include hpair hS in
theorem settle {j:J}{w:World}{a:Act}{lstP:Array Bool}{C:Prop}:∀(N:Nat){lst:Array Bool}{lim:List (Nat×Nat)}{tv:Nat->Value}{jl:List Nat},lim.length<=N->Inv ops S fx v n j0 w0 O0 lstP lst lim tv j w jl a ->
  (∀lst lim tv jl,Inv ops S fx v n j0 w0 O0 lstP lst lim tv j w jl a->(∀m b,(m,b)∈lim->∃p,twin ops fx p m/\¬Ran lst p)->C)->C:=by
 intro N;induction N with
 | zero =>
  intro lst lim tv jl hN hinv hC;have:lim=[]:=List.eq_nil_of_length_eq_zero (by omega);subst this;exact hC _ _ _ _ hinv fun m b h=>by simp at h
 | succ N ih =>
  intro lst lim tv jl hN hinv hC;by_cases c:∃m b,(m,b)∈lim/\∀p,twin ops fx p m->Ran lst p
  ·obtain⟨m,b,hm,hp⟩:=c;obtain⟨tv',h⟩:=adopt hpair hS hinv hm fun p h=>h.elim ((hinv.lims m b hm).2.2.1 p) (hp p);refine ih ?_ h hC;have:(lim.filter fun x=>x.1 != m).length<lim.length:=List.length_filter_lt_length_iff_exists.2 ⟨(m,b),hm,by simp⟩;omega
  ·refine hC _ _ _ _ hinv fun m b hm=>Classical.byContradiction fun c'=>c ⟨m,b,hm,fun p hp=>Classical.byContradiction fun c2=>c' ⟨p,hp,c2⟩⟩

theorem lim_ord {lstP lst:Array Bool}{lim:List (Nat×Nat)}{tv:Nat->Value}{j:J}{w:World}{jl:List Nat}{a:Act}(hinv:Inv ops S fx v n j0 w0 O0 lstP lst lim tv j w jl a)
  (hst:∀m b,(m,b)∈lim->∃p,twin ops fx p m/\¬Ran lst p){i:Nat}(hpre:∀p,ord ops p i->Ran lstP p):∀m b,(m,b)∈lim->ord ops m i->False:=by
 intro m;induction m using Nat.strongRecOn with
 | _ m ih =>
  intro b hm ho;obtain⟨p,hp,hn⟩:=hst m b hm;obtain⟨hlt,_,_,_,_,_,_,htw⟩:=hp;have h1:=htw i ho;rcases (hinv.pran p).1 (hpre p h1) with h|⟨b',h⟩
  ·exact hn h
  ·exact ih p hlt b' h h1

theorem lim_nil {lstP lst:Array Bool}{lim:List (Nat×Nat)}{tv:Nat->Value}{j:J}{w:World}{jl:List Nat}{a:Act}(hinv:Inv ops S fx v n j0 w0 O0 lstP lst lim tv j w jl a)
  (hst:∀m b,(m,b)∈lim->∃p,twin ops fx p m/\¬Ran lst p) (hall:∀p,p<ops.size->Ran lstP p):lim=[]:=by
 have:∀m b,(m,b)∈lim->False:=by
  intro m;induction m using Nat.strongRecOn with
  | _ m ih =>
   intro b hm;obtain⟨p,hp,hn⟩:=hst m b hm;obtain⟨hlt,_,oi,ok,e1,_⟩:=hp;rcases (hinv.pran p).1 (hall p (ops_lt e1)) with h|⟨b',h⟩
   ·exact hn h
   ·exact ih p hlt b' h
 cases lim with
 | nil=>rfl
 | cons x r=>exact(this x.1 x.2 (by simp)).elim
include hlt in
theorem ready_nil {lst:Array Bool}(hsz:lst.size=ops.size) (h:Region.ready .any ops lst=[]):∀p,p<ops.size->Ran lst p:=by
 intro p;induction p using Nat.strongRecOn with
 | _ p ih =>
  intro hp;rcases hr:lst.getD p false with _|_
  ·have:p∈Region.ready .any ops lst:=by
    simp only [Region.ready,List.mem_filter,List.mem_range,Bool.and_eq_true,Bool.not_eq_true'];refine⟨hp, ?_, ?_⟩
    ·rw [Array.getD_eq_getD_getElem?,Array.getElem?_eq_getElem (by omega)] at hr ⊢
     simpa using hr
    ·rw [Array.getElem?_eq_getElem hp];simp only [Option.map_some,Option.getD_some,Array.all_eq_true'];intro e he;cases hb:Region.binds .any e with
     | false=>simp
     | true =>
      have hl:=hlt p _ (getOps hp) e (by simpa using he) hb;have:=ih e.on hl (by omega)
      simpa [Ran] using this
   rw [h] at this; simp at this
  ·exact hr

include hlt hpair hS in
theorem wpAny_of_inv {Q:Exit->Act->World->Prop}(hQ:∀j w jl a,SRel j w jl (S ops.size) a->Evolve j0 w0 O0 j w (Own j (S ops.size).h jl)->(S ops.size).n=n->Q .normal a w) (hn:∀k,k<=ops.size->(S k).n=n) :
  ∀(fuel:Nat) (lstP lst:Array Bool) (lim:List (Nat×Nat)) (tv:Nat->Value) (j:J) (w:World) (jl:List Nat) (a:Act),((List.range ops.size).filter fun i=>!lstP.getD i false).length<=fuel ->
   Inv ops S fx v n j0 w0 O0 lstP lst lim tv j w jl a->(∀m b,(m,b)∈lim->∃p,twin ops fx p m/\¬Ran lst p)->wpAny P .any ops Q fuel lstP a w:=by
 have fin:∀(lstP lst:Array Bool) (lim:List (Nat×Nat)) (tv:Nat->Value) (j:J) (w:World) (jl:List Nat) (a:Act),Inv ops S fx v n j0 w0 O0 lstP lst lim tv j w jl a ->
   (∀m b,(m,b)∈lim->∃p,twin ops fx p m/\¬Ran lst p)->(∀p,p<ops.size->Ran lstP p)->Q .normal a w:=by
  intro lstP lst lim tv j w jl a hinv hst hallP;have hnil:=lim_nil hinv hst hallP;subst hnil;have hall:∀p,p<ops.size->Ran lst p:=fun p hp=>((hinv.pran p).1 (hallP p hp)).elim id fun⟨b,h⟩=>by simp at h
  obtain⟨kl,kh,hkl,hkh,hwl,hwh,hhl,hev,_⟩:=hinv.st;have e1:(S kl).ls=(S ops.size).ls:=same_cut (fun k=>(S k).ls) (fun p=>(fx p).wl=true) (Ran lst) (fun k hk hn=>(hS k _ (getOps hk)).2.2.2.1 (by simpa using hn)) hkl (Nat.le_refl _) hwl
   fun p hp _=>⟨fun _=>hp,fun _=>hall p hp⟩
  have e2:(S kh).h=(S ops.size).h:=same_cut (fun k=>(S k).h) (fun p=>(fx p).wh=true) (Ran lst) (fun k hk hn=>(hS k _ (getOps hk)).2.2.2.2.1 (by simpa using hn)) hkh (Nat.le_refl _) hwh
   fun p hp _=>⟨fun _=>hp,fun _=>hall p hp⟩
  refine hQ j w jl a ⟨hinv.defers,by rw [hn _ (Nat.le_refl _)]; exact hinv.tsize,fun t=>?_,by rw [<- e1,<- e2]; exact hhl⟩ (by rw [<- e2]; exact hev) (hn _ (Nat.le_refl _));obtain⟨k,hk,hw,hv⟩:=hinv.tm t;have:get (S k).ts t=get (S ops.size).ts t :=
   same_cut (fun k=>get (S k).ts t) (fun p=>∃o,ops[p]?=some o/\o.dst=some t) (Ran lst) (get_step hS t) hk (Nat.le_refl _) (fun p _ ⟨op,h1,h2⟩=>hw p op h1 h2) fun p hp _ =>
    ⟨fun _=>hp,fun _=>hall p hp⟩
  rw [<- this,hinv.agree t fun m b o h=>by simp at h]; exact hv
 intro fuel;induction fuel with
 | zero =>
  intro lstP lst lim tv j w jl a hf hinv hst;have hall:∀p,p<ops.size->Ran lstP p:=by
   intro p hp;rcases hr:lstP.getD p false with _|_
   ·have:p∈(List.range ops.size).filter fun i=>!lstP.getD i false:=by simp only [List.mem_filter,List.mem_range]; exact⟨hp,by rw [hr]; rfl⟩
    have:=List.length_pos_of_mem this; omega
   ·exact hr
  refine⟨?_,fin lstP lst lim tv j w jl a hinv hst hall⟩;rw [List.eq_nil_iff_forall_not_mem];intro i hi;obtain⟨_,_,hio,hni,_⟩:=ready_spec hi hinv.psize;exact hni (hall i hio)
 | succ fuel ih =>
  intro lstP lst lim tv j w jl a hf hinv hst;refine⟨fun hr=>fin lstP lst lim tv j w jl a hinv hst (ready_nil hlt hinv.psize hr),fun i hi=>?_⟩;obtain⟨o,ho,hio,hni,hdep⟩:=ready_spec hi hinv.psize;have hil:i<lstP.size:=by rw [hinv.psize]; exact hio
  have hfuel:((List.range ops.size).filter fun p=>!(lstP.setIfInBounds i true).getD p false).length<=fuel:=by
   have hlt2:((List.range ops.size).filter fun p=>!(lstP.setIfInBounds i true).getD p false).length<((List.range ops.size).filter fun p=>!lstP.getD p false).length:=by
    have hsub:((List.range ops.size).filter fun p=>!(lstP.setIfInBounds i true).getD p false)=((List.range ops.size).filter fun p=>!lstP.getD p false).filter (fun p=>p != i):=by
     rw [List.filter_filter];refine List.filter_congr fun p _=>?_;by_cases h3:p=i
     ·subst h3;have h4:Ran (lstP.setIfInBounds p true) p:=(Ran.set hil).2 (.inl rfl);unfold Ran at h4;rw [h4]; simp
     ·have h4:Ran (lstP.setIfInBounds i true) p↔Ran lstP p:=by rw [Ran.set hil]; simp [h3]
      unfold Ran at h4;rcases h1:(lstP.setIfInBounds i true).getD p false with _|_<;>rcases h2:lstP.getD p false with _|_<;>rw [h1,h2] at h4<;>simp at h4<;>simp [h3]
    rw [hsub];refine List.length_filter_lt_length_iff_exists.2 ⟨i, ?_,by simp⟩;simp only [List.mem_filter,List.mem_range];refine⟨hio, ?_⟩;unfold Ran at hni;simp at hni ⊢; exact hni
   omega
  have hpP:∀p,ord ops p i->Ran lstP p:=fun p hp=>ord_ran hlt ho hinv.pclosed hdep hp;have hp:∀p,ord ops p i->Ran lst p:=fun p hp=>((hinv.pran p).1 (hpP p hp)).elim id fun⟨b,h⟩=>(lim_ord hinv hst hpP p b h hp).elim;by_cases c:∀p,twin ops fx p i->Ran lst p
  ·refine run_step hlt hpair hS hinv ho hni hdep (fun p h=>h.elim (hp p) (c p)) fun tv' j' w' jl' a' hinv'=>?_;exact settle hpair hS _ (Nat.le_refl _) hinv' fun lst' lim' tv2 jl2 h1 h2=>ih _ lst' lim' tv2 j' w' jl2 a' hfuel h1 h2
  ·have:(fx i).nu=true:=Classical.byContradiction fun c'=>c fun p hp=>(c' hp.2.1).elim;refine ahead_step hlt hpair hS hinv ho hni hdep hp this fun w' a' b hinv'=>?_;exact settle hpair hS _ (Nat.le_refl _) hinv' fun lst' lim' tv2 jl2 h1 h2=>ih _ lst' lim' tv2 j w' jl2 a' hfuel h1 h2
end

theorem DOps.wp {P:Program}(hm:P.follows .mixedOrders=true){id:Nat}{l:List Oper}{n:Nat}{Q:St->Prop}{σ:St}(hd:DOps P l.toArray n l [] Q σ) (hσ:σ.n=n)
  {j:J}{w:World}{jl:List Nat}{a:Act}(hs:SRel j w jl σ a){Qc:Exit->Act->World->Prop}
  (hk:∀σ' j' w' jl' a',Q σ'->SRel j' w' jl' σ' a'->Evolve j w (Own j σ.h jl) j' w' (Own j' σ'.h jl')->Qc .normal a' w'):(Code.region id l.toArray true).wp P Qc a w:=by
 obtain⟨S,fx,v,h0,h1,h2,h3⟩:=hd;have h2':=okDraw_spec (ops:=l.toArray) (fx:=fx) (by simpa using h2);have hS:∀k o,l.toArray[k]?=some o->_:=fun k o hk=>h1 k o (by simpa using hk);have hn:∀k,k<=l.toArray.size->(S k).n=n:=by
  intro k;induction k with
  | zero=>intro _; rw [h0,hσ]
  | succ k ih=>intro hk; rw [(hS k _ (getOps (by omega))).2.1]; exact ih (by omega)
 refine wp_region_any hm ?_;refine wpAny_of_inv (n:=n) (S:=S) (fx:=fx) (v:=v) (j0:=j) (w0:=w) (O0:=Own j σ.h jl) h2'.1 h2'.2 hS (fun j' w' jl' a' hs' he _=>hk (S l.toArray.size) j' w' jl' a' (by simpa using h3) hs' he) hn _ _ (Array.replicate l.toArray.size false) [] (fun t=>a.tmps.getD t undef) j w.drew jl a ?_ ?_ (fun m b h=>by simp at h)
 ·have:=List.length_filter_le (fun i=>!(Array.replicate l.toArray.size false).getD i false) (List.range l.toArray.size)
  simpa using this
 ·have hnr:∀p,¬Ran (Array.replicate l.toArray.size false) p:=by
   intro p h;unfold Ran at h;rw [Array.getD_eq_getD_getElem?,Array.getElem?_replicate] at h
   split at h<;>simp at h
  refine⟨by simp,by simp,fun i=>⟨fun h=>(hnr i h).elim,fun h=>h.elim (fun h=>(hnr i h).elim) fun⟨b,h⟩=>by simp at h⟩,fun k h=>(hnr k h).elim,fun k h=>(hnr k h).elim,hs.defers,by rw [hs.size,hσ],fun _ _=>rfl,
   fun t=>⟨0,Nat.zero_le _,fun p _ _ _=>⟨fun h=>(hnr p h).elim,fun h=>by omega⟩, ?_⟩,
   ⟨0,0,Nat.zero_le _,Nat.zero_le _,fun p _ _=>⟨fun h=>(hnr p h).elim,fun h=>by omega⟩,fun p _ _=>⟨fun h=>(hnr p h).elim,fun h=>by omega⟩, ?_, ?_,fun m b h=>by simp at h⟩,.nil,fun m b h=>by simp at h⟩
  ·rw [h0]; exact(hs.tmps t).mono (Evolve.drew j w (Own j σ.h jl)).toLe (Ext.refl _)
  ·rw [h0]; exact hs.hl.drew
  ·rw [h0]; exact Evolve.drew _ _ _

end Go.Ab
