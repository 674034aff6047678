import Derived.WalkKit
import Derived.Orders
import Derived.Laws.Rows
set_option maxRecDepth 100000
set_option maxHeartbeats 2000000
set_option linter.unusedVariables false
set_option linter.unusedSimpArgs false
/-
 The abstract reading of memory: plain data D,the ghost map J,when a Go value reads as a datum,and how a world may evolve. No program text.
-/
namespace Go.Ab
open Go Go.RowKit
inductive D where
 | bool (b:Bool)
 | int (k:IntKind) (n:Int)
 | str (s:List UInt8)
 | slice (k:Nat) (tok:Option Nat) (nil:Bool) (rows:List (List D))
 | arr (k id:Nat) (nl:Bool) (len:Nat)
 | sx (id m off:Nat)
 | dS
 | ptr (id off:Nat)
 | view (cells:List D)
 | nw
 | map (id:Nat)
 | nilFunc
 | func (f:FuncId) (b_:List D)
 | yield (l:Nat)
 | lS
 | nilIface
 | iface (t:TypeId) (x:D)
 deriving Inhabited
inductive A where
 | d (x:D)
 | agg (xs:List D)
 deriving Inhabited
inductive V where
 | any
 | a (x:A)
 | cW (i off:Nat)
 | dz (xs:List A)
 | gd (c:Bool) (x:A)
 | iY (c:Bool) (i off:Nat)
 | full (k:Nat) (rows:List (List D))
 | oG (c:Bool) (k:Nat) (rows:List (List D))
 deriving Inhabited
inductive Obj where
 | cells (xs:List D)
 | map (es:List (D×A))
 | tok (k m:Nat) (E:Option TypeId:=none)
 | arr (k:Nat) (rows:List (List D))
 | fix (b:Nat) (o:Go.Obj)
 | sy (T:TypeId) (xs:List D)
 | oH (b:Nat) (o:Go.Obj)
abbrev ak:=Nat->Option Obj
def ak.set (h:ak) (i:Nat) (o:Option Obj):ak:=fun n=>if n=i then o else h n
structure Tk where
 dG:Option (Nat×Nat)
 m:Nat
structure J where
 out:Nat->Nat
 F:Nat->Nat
 tok:Nat->Option Tk
 next:Nat
inductive bf {α β:Type}(R:α->β->Prop):List α->List β->Prop where
 | nil:bf R [] []
 | cons {a b l m} (h:R a b) (t:bf R l m):bf R (a::l) (b::m)
theorem bf.imp {α β:Type}{R S:α->β->Prop}(h:∀a b,R a b->S a b){l:List α}{m:List β}(hl:bf R l m):bf S l m:=by
 induction hl with
 | nil=>exact .nil
 | cons x _ f=>exact .cons (h _ _ x) f
theorem bf.length {α β:Type}{R:α->β->Prop}{l:List α}{m:List β}(h:bf R l m):l.length=m.length:=by
 induction h with
 | nil=>rfl
 | cons _ _ b=>simp [b]
theorem bf.get {α β:Type}{R:α->β->Prop}{l:List α}{m:List β}(h:bf R l m):∀{i:Nat}{x:α},l[i]?=some x->∃y,m[i]?=some y/\R x y:=by
 induction h with
 | nil=>intro i x hx; simp at hx
 | cons hh _ b =>
  intro i x hx;cases i with
  | zero=>simp at hx; subst hx; exact⟨_,rfl,hh⟩
  | succ i=>simp at hx; simpa using b hx
theorem bf.get' {α β:Type}{R:α->β->Prop}{l:List α}{m:List β}(h:bf R l m):∀{i:Nat}{y:β},m[i]?=some y->∃x,l[i]?=some x/\R x y:=by
 induction h with
 | nil=>intro i x hx; simp at hx
 | cons hh _ b =>
  intro i x hx;cases i with
  | zero=>simp at hx; subst hx; exact⟨_,rfl,hh⟩
  | succ i=>simp at hx; simpa using b hx
theorem bf.lT {α β:Type}{R:α->β->Prop}:∀{l:List α}{m:List β},l.length=m.length->(∀(i:Nat) x y,l[i]?=some x->m[i]?=some y->R x y)->bf R l m
 | [],[],_,_=>.nil
 | [],_::_,h,_=>by simp at h
 | _::_,[],h,_=>by simp at h
 | a::l,b::m,h,hr=>.cons (hr 0 a b rfl rfl) (bf.lT (by simpa using h) fun i x y hx f=>hr (i+1) x y (by simpa using hx) (by simpa using f))
theorem bf.append {α β:Type}{R:α->β->Prop}{l l':List α}{m m':List β}(h:bf R l m) (h':bf R l' m'):bf R (l++l') (m++m'):=by
 induction h with
 | nil=>exact h'
 | cons x _ b=>exact .cons x b
theorem bf.set {α β:Type}{R:α->β->Prop}{l:List α}{m:List β}(h:bf R l m){a:α}{b:β}(hr:R a b) (i:Nat):bf R (l.set i a) (m.set i b):=by
 induction h generalizing i with
 | nil=>exact .nil
 | cons x t f =>
  cases i with
  | zero=>exact .cons hr t
  | succ i=>exact .cons x (f i)
theorem bf.take {α β:Type}{R:α->β->Prop}{l:List α}{m:List β}(h:bf R l m) (n:Nat):bf R (l.take n) (m.take n):=by
 induction h generalizing n with
 | nil=>simp; exact .nil
 | cons x t b =>
  cases n with
  | zero=>exact .nil
  | succ n=>exact .cons x (b n)
theorem bf.drop {α β:Type}{R:α->β->Prop}{l:List α}{m:List β}(h:bf R l m) (n:Nat):bf R (l.drop n) (m.drop n):=by
 induction h generalizing n with
 | nil=>simp; exact .nil
 | cons x t b =>
  cases n with
  | zero=>exact .cons x t
  | succ n=>exact b n
def cq:Nat:=140737488355328
def gD:Nat:=4611686018427387904
def oI (j:J) (tok:Option Nat) (n:Nat) (a:Addr) (cap:Nat):Prop :=
 ∀t,tok=some t->t<j.next/\∀k,j.tok t=some k->n<=k.m/\(n=k.m->(k.dG=none/\cap=n)\/∃b,k.dG=some (b,cap)/\a=⟨b,0,none⟩)
def sA (j:J) (id:Nat) (nl:Bool) (len:Nat) (a:Option Addr) (cap:Nat):Prop :=
 ∀tk,j.tok id=some tk->len<=tk.m/\(len=tk.m->(tk.dG=none/\nl=a.isNone/\cap=0)\/∃b,tk.dG=some (b,cap)/\a=some ⟨b,0,none⟩/\nl=false)
def At (j:J) (w:World) (a:Addr) (n:Nat) (cv:Nat->Value):Prop :=
 a.spot=none/\∀i,i<n->a.off+i<j.F a.block/\w.cell? ⟨a.block,a.off+i,none⟩=some (cv i)
def nx (j:J) (w:World) (a:Addr) (rows:List (List D)) (cv:Nat->Value):Prop :=
 (rows=[]\/a.spot=none)/\∀i,i<rows.flatten.length->a.off+i<j.F a.block/\w.cell? ⟨a.block,a.off+i,none⟩=some (cv i)
inductive aD (j:J) (w:World):D->Value->Prop
 | bool (b:Bool):aD j w (.bool b) (.bool b)
 | int (k:IntKind) (n:Int):aD j w (.int k n) (.int k n)
 | str (s:List UInt8) (h:s.length<=gD):aD j w (.str s) (.string ⟨s.toArray⟩)
 | eU (k:Nat) (tok:Option Nat) (ht:∀t,tok=some t->t<j.next):aD j w (.slice k tok true []) (.slice none 0 0)
 | slice (k:Nat) (tok:Option Nat) (rows:List (List D)) (a:Addr) (cap:Nat) (cv:Nat->Value)
   (hk:∀r∈rows,r.length=k) (hn:rows.length<=cq) (hc:rows.length<=cap)
   (bM:nx j w a rows cv) (hr:∀i (h:i<rows.flatten.length),aD j w rows.flatten[i] (cv i))
   (ht:oI j tok rows.length a cap):aD j w (.slice k tok false rows) (.slice (some a) rows.length cap)
 | arr (k id:Nat) (nl:Bool) (len:Nat) (a:Option Addr) (cap:Nat) (hid:id<j.next) (hv:sA j id nl len a cap):aD j w (.arr k id nl len) (.slice a len cap)
 | sx (id m off b:Nat) (hid:id<j.next) (hv:∀tk,j.tok id=some tk->m<=tk.m/\(m=tk.m->∃c,tk.dG=some (b,c))):aD j w (.sx id m off) (.pointer (some ⟨b,off,none⟩))
 | dS:aD j w .dS (.pointer none)
 | ptr (id off:Nat) (h:id<j.next):aD j w (.ptr id off) (.pointer (some ⟨j.out id,off,none⟩))
 | view (cells:List D) (a:Addr) (cv:Nat->Value) (bM:At j w a cells.length cv) (hr:∀i (h:i<cells.length),aD j w cells[i] (cv i)) :
   aD j w (.view cells) (.pointer (some a))
 | nw:aD j w .nw (.map none)
 | map (id b:Nat) (hid:id<j.next) (hv:∀tk,j.tok id=some tk->1<=tk.m/\(tk.m=1->∃c,tk.dG=some (b,c))):aD j w (.map id) (.map (some b))
 | nilFunc:aD j w .nilFunc .nilFunc
 | func (f:FuncId) (b_:List D) (ic:List Value) (hl:b_.length=ic.length) (hr:∀i (h:i<b_.length) (h':i<ic.length),aD j w b_[i] ic[i]) :
   aD j w (.func f b_) (.func (.func f) #[] ic.toArray)
 | yield (l:Nat):aD j w (.yield l) (.func (.yield l) #[] #[])
 | lS (t:Fn) (b c:Array Value):aD j w .lS (.func t b c)
 | nilIface:aD j w .nilIface .nilIface
 | iface (t:TypeId) (x:D) (v:Value) (h:aD j w x v):aD j w (.iface t x) (.iface t v)
def cH (j:J) (w:World):A->Value->Prop
 | .d x,v=>aD j w x v
 | .agg xs,v=>∃cs:List Value,v=.agg cs.toArray/\bf (aD j w) xs cs
def bq (j:J) (w:World) (jl:List Nat):V->Value->Prop
 | .any,_=>True
 | .a x,v=>cH j w x v
 | .cW i off,v=>∃b,jl[i]?=some b/\v=.pointer (some ⟨b,off,none⟩)
 | .dz xs,v=>∃cs:List Value,v=.tuple cs.toArray/\bf (cH j w) xs cs
 | .gd c x,v=>(c=true->cH j w x v)/\(c=false->v=.tuple #[])
 | .iY c i off,v=>(c=true->∃b,jl[i]?=some b/\v=.pointer (some ⟨b,off,none⟩))/\(c=false->v=.tuple #[])
 | .oG c k rows,v=>(c=true->aD j w (.slice k none false rows) v/\∃a,v=.slice (some a) rows.length rows.length)/\(c=false->v=.tuple #[])
 | .full k rows,v=>aD j w (.slice k none false rows) v/\∃a,v=.slice (some a) rows.length rows.length
structure Le (j:J) (w:World) (j':J) (w':World):Prop where
 next:j.next<=j'.next
 out:∀id,id<j.next->j'.out id=j.out id
 F:∀b,j.F b<=j'.F b
 data:∀b o,o<j.F b->w'.cell? ⟨b,o,none⟩=w.cell? ⟨b,o,none⟩
 tok:∀t,t<j.next->j'.tok t=j.tok t\/∃k k',j.tok t=some k/\j'.tok t=some k'/\k.m<k'.m
theorem Le.refl (j:J) (w:World):Le j w j w:=⟨Nat.le_refl _,fun _ _=>rfl,fun _=>Nat.le_refl _,fun _ _ _=>rfl,fun _ _=>.inl rfl⟩
theorem Le.trans {j g i:J}{w l m:World}(h:Le j w g l) (h':Le g l i m):Le j w i m:=by
 refine⟨Nat.le_trans h.next h'.next,fun id hi=>(h'.out id (Nat.lt_of_lt_of_le hi h.next)).trans (h.out id hi),fun b=>Nat.le_trans (h.F b) (h'.F b),
  fun b o p=>(h'.data b o (Nat.lt_of_lt_of_le p (h.F b))).trans (h.data b o p),fun t ht=>?_⟩
 rcases h'.tok t (Nat.lt_of_lt_of_le ht h.next) with e|⟨k,k',e,q,aT⟩
 ·rw [e]; exact h.tok t ht
 ·rcases h.tok t ht with f|⟨u,v,f,r,s⟩
  ·exact .inr ⟨k,k',f▸e,q,aT⟩
  ·rw [r] at e;simp only [Option.some.injEq] at e;subst e;exact .inr ⟨_,_,f,q,Nat.lt_trans s aT⟩
theorem oI.mono {j j':J}{w w':World}(hle:Le j w j' w'){tok:Option Nat}{n:Nat}{a:Addr}{cap:Nat}(h:oI j tok n a cap):oI j' tok n a cap:=by
 intro t ht;obtain⟨h1,b⟩:=h t ht;refine⟨Nat.lt_of_lt_of_le h1 hle.next,fun k hk=>?_⟩;rcases hle.tok t h1 with e|⟨g,k',e,f,aT⟩
 ·rw [e] at hk; exact b k hk
 ·rw [f] at hk;simp only [Option.some.injEq] at hk;subst hk;have:=(b _ e).1;exact⟨by omega,fun h=>by omega⟩
theorem sA.mono {j j':J}{w w':World}(hle:Le j w j' w'){id:Nat}{nl:Bool}{len:Nat}{a:Option Addr}{cap:Nat}(hid:id<j.next) (h:sA j id nl len a cap):sA j' id nl len a cap:=by
 intro tk hk;rcases hle.tok id hid with e|⟨f,k',e,b,aT⟩
 ·rw [e] at hk; exact h tk hk
 ·rw [b] at hk;simp only [Option.some.injEq] at hk;subst hk;have:=(h _ e).1;exact⟨by omega,fun h=>by omega⟩
theorem At.mono {j j':J}{w w':World}(hle:Le j w j' w'){a:Addr}{n:Nat}{cv:Nat->Value}(h:At j w a n cv):At j' w' a n cv :=
 ⟨h.1,fun i hi=>⟨Nat.lt_of_lt_of_le (h.2 i hi).1 (hle.F _),(hle.data _ _ (h.2 i hi).1).trans (h.2 i hi).2⟩⟩
theorem nx.mono {j j':J}{w w':World}(hle:Le j w j' w'){a:Addr}{rows:List (List D)}{cv:Nat->Value}(h:nx j w a rows cv):nx j' w' a rows cv :=
 ⟨h.1,fun i hi=>⟨Nat.lt_of_lt_of_le (h.2 i hi).1 (hle.F _),(hle.data _ _ (h.2 i hi).1).trans (h.2 i hi).2⟩⟩
theorem aD.mono {j j':J}{w w':World}(hle:Le j w j' w'){x:D}{v:Value}(h:aD j w x v):aD j' w' x v:=by
 induction h with
 | bool b=>exact .bool b
 | int k n=>exact .int k n
 | str s h=>exact .str s h
 | eU k tok ht=>exact .eU k tok fun t h=>Nat.lt_of_lt_of_le (ht t h) hle.next
 | slice k tok rows a cap cv hk hn hc bM hr ht g=>exact .slice k tok rows a cap cv hk hn hc (bM.mono hle) g (ht.mono hle)
 | arr k id nl len a cap hid hv=>exact .arr k id nl len a cap (Nat.lt_of_lt_of_le hid hle.next) (hv.mono hle hid)
 | sx id m off b hid hv =>
  refine .sx id m off b (Nat.lt_of_lt_of_le hid hle.next) fun tk hk=>?_;rcases hle.tok id hid with e|⟨o,k',e,i,aT⟩
  ·rw [e] at hk; exact hv tk hk
  ·rw [i] at hk;simp only [Option.some.injEq] at hk;subst hk;have:=(hv _ e).1;exact⟨by omega,fun h=>by omega⟩
 | dS=>exact .dS
 | ptr id off h =>
  rw [<- hle.out id h];exact .ptr id off (Nat.lt_of_lt_of_le h hle.next)
 | view cells a cv bM hr g=>exact .view cells a cv (bM.mono hle) g
 | nw=>exact .nw
 | map id b hid hv =>
  refine .map id b (Nat.lt_of_lt_of_le hid hle.next) fun tk hk=>?_;rcases hle.tok id hid with e|⟨o,k',e,i,aT⟩
  ·rw [e] at hk; exact hv tk hk
  ·rw [i] at hk;simp only [Option.some.injEq] at hk;subst hk;have:=(hv _ e).1;exact⟨by omega,fun h=>by omega⟩
 | nilFunc=>exact .nilFunc
 | func f b_ ic hl hr g=>exact .func f b_ ic hl g
 | yield l=>exact .yield l
 | lS t b c=>exact .lS t b c
 | nilIface=>exact .nilIface
 | iface t x v h g=>exact .iface t x v g
theorem cH.mono {j j':J}{w w':World}(hle:Le j w j' w'){x:A}{v:Value}(h:cH j w x v):cH j' w' x v:=by
 cases x with
 | d x=>exact aD.mono hle h
 | agg xs=>obtain⟨cs,e,h⟩:=h; exact⟨cs,e,h.imp fun _ _ h=>h.mono hle⟩
def Ext (jl f:List Nat):Prop:=∀(i b:Nat),jl[i]?=some b->f[i]?=some b
theorem Ext.refl (jl:List Nat):Ext jl jl:=fun _ _ h=>h
theorem bq.mono {j j':J}{w w':World}(hle:Le j w j' w'){jl f:List Nat}(hx:Ext jl f){x:V}{v:Value}(h:bq j w jl x v):bq j' w' f x v:=by
 cases x with
 | any=>trivial
 | a x=>exact cH.mono hle h
 | cW i off=>obtain⟨b,hb,e⟩:=h; exact⟨b,hx i b hb,e⟩
 | dz xs=>obtain⟨cs,e,h⟩:=h; exact⟨cs,e,h.imp fun _ _ h=>h.mono hle⟩
 | gd c x=>exact⟨fun hc=>cH.mono hle (h.1 hc),h.2⟩
 | iY c i off=>exact⟨fun hc=>let ⟨b,hb,e⟩:=h.1 hc; ⟨b,hx i b hb,e⟩,h.2⟩
 | full k rows=>exact⟨h.1.mono hle,h.2⟩
 | oG c k rows=>exact⟨fun hc=>⟨(h.1 hc).1.mono hle,(h.1 hc).2⟩,h.2⟩
def bR (j:J) (id:Nat):Obj->Option Nat
 | .tok _ _ _=>(j.tok id).bind fun k=>k.dG.map (·.1)
 | .arr _ _=>(j.tok id).bind fun k=>k.dG.map (·.1)
 | .map _=>(j.tok id).bind fun k=>k.dG.map (·.1)
 | .fix b _=>some b
 | .oH b _=>some b
 | _=>some (j.out id)
def jM (j:J) (w:World) (e:D×A) (m:MapEntry):Prop:=aD j w e.1 m.key/\cH j w e.2 m.val
def kw (b:List MapEntry) (c8:Nat):Prop:=(b.map (·.born)).Nodup/\(∀m∈b,m.born<c8)/\(b.map (·.key)).Nodup
def gb (j:J) (w:World) (id:Nat):Obj->Prop
 | .cells xs=>∃(cs:List Value) (e:TypeId),w.heap[j.out id]?=some (.cells cs.toArray e (0,0))/\bf (aD j w) xs cs/\j.F (j.out id)=0
 | .map es=>∃(b c:Nat) (f:List MapEntry) (c8:Nat),j.tok id=some ⟨some (b,c),1⟩/\w.heap[b]?=some (.map f.toArray c8)/\bf (jM j w) es f/\j.F b=0/\kw f c8
 | .sy T xs=>∃cs:List Value,w.heap[j.out id]?=some (.cells cs.toArray T (0,0))/\bf (aD j w) xs cs/\j.F (j.out id)=0
 | .tok k m E=>∃dG,j.tok id=some ⟨dG,m⟩/\(∀b cap,dG=some (b,cap)->∃(cs:Array Value) (e:TypeId),w.heap[b]?=some (.cells cs e (0,0))/\cs.size=cap*k/\j.F b=m*k/\m<=cap/\∀T,E=some T->e=T)/\(E.isSome=true->dG=none->m=0)
 | .fix b o=>w.heap[b]?=some o
 | .oH b o=>∃c,j.tok id=some ⟨some (b,c),1⟩/\w.heap[b]?=some o/\j.F b=0
 | .arr k rows=>∃dG,j.tok id=some ⟨dG,rows.length⟩/\(dG=none↔rows=[])/\(∀r∈rows,r.length=k)/\rows.length<=cq/\∀b cap,dG=some (b,cap) ->
   ∃(cs:List Value) (e:TypeId),w.heap[b]?=some (.cells cs.toArray e (0,0))/\cs.length=cap*k/\j.F b=0/\rows.length<=cap/\bf (aD j w) rows.flatten (cs.take (rows.length*k))
def Obj.tokd:Obj->Bool
 | .tok _ _ _=>true
 | .arr _ _=>true
 | .map _=>true
 | .fix _ _=>true
 | .oH _ _=>true
 | _=>false
def bg (j:J) (h:ak) (jl:List Nat) (b:Nat):Prop:=b∈jl\/∃id o,h id=some o/\bR j id o=some b
structure fC (j:J) (w:World) (h:ak):Prop where
 obj:∀id o,h id=some o->id<j.next/\gb j w id o
 inj:∀iZ o1 i_ o2 b,h iZ=some o1->h i_=some o2->bR j iZ o1=some b->bR j i_ o2=some b->iZ=i_
 fresh:∀b,w.heap.size<=b->j.F b=0
def jN (j:J) (w:World) (b:Nat) (xs:List D):Prop:=∃(cs:List Value) (e:TypeId),w.heap[b]?=some (.cells cs.toArray e (0,0))/\bf (aD j w) xs cs/\j.F b=0
structure Gb (j:J) (w:World) (h:ak) (ls:List (List D)) (jl:List Nat):Prop where
 each:bf (fun xs b=>jN j w b xs) ls jl
 nodup:jl.Nodup
 apart:∀b,b∈jl->¬bg j h [] b
class bC where
 Gc:Prop
abbrev bC.on:bC:=⟨True⟩
abbrev bC.off:bC:=⟨False⟩
variable {az:bC}
def eY [bC] (w w':World):Prop:=w'.output=w.output/\(w.drawn<=w'.drawn\/bC.Gc)
theorem eY.rfl {w w':World}(h1:w'.output=w.output:=by first|rfl|simp) (b:w.drawn<=w'.drawn:=by first|exact Nat.le_refl _|exact Nat.le_succ _|simp):eY w w':=⟨h1,.inl b⟩
theorem eY.trans {w f g:World}(h':eY f g) (h:eY w f):eY w g:=⟨h'.1.trans h.1,h.2.elim (fun a=>h'.2.elim (fun b=>.inl (Nat.le_trans a b)) .inr) .inr⟩
structure bQ [bC] (j:J) (w:World) (O:Nat->Prop) (j':J) (w':World) (O':Nat->Prop):Prop extends Le j w j' w' where
 size:w.heap.size<=w'.heap.size
 frame:∀b,b<w.heap.size->¬O b->w'.heap[b]?=w.heap[b]?/\j'.F b=j.F b
 own:∀b,b<w.heap.size->O' b->O b
 os:w'.os=w.os
 tape:w'.tape=w.tape
 output:eY w w'
theorem bQ.refl (j:J) (w:World) (O:Nat->Prop):bQ j w O j w O :=
 ⟨Le.refl _ _,Nat.le_refl _,fun _ _ _=>⟨rfl,rfl⟩,fun _ _ h=>h,rfl,rfl,eY.rfl⟩
theorem bQ.trans {j g i:J}{w k l:World}{O m O2:Nat->Prop}(h:bQ j w O g k m) (h':bQ g k m i l O2):bQ j w O i l O2:=by
 refine⟨h.toLe.trans h'.toLe,Nat.le_trans h.size h'.size,fun b hb f=>?_,fun b hb f=>h.own b hb (h'.own b (Nat.lt_of_lt_of_le hb h.size) f),h'.os.trans h.os,h'.tape.trans h.tape,h'.output.trans h.output⟩;have h1:=h.frame b hb f;have o:=h'.frame b (Nat.lt_of_lt_of_le hb h.size) (fun p=>f (h.own b hb p));exact⟨o.1.trans h1.1,o.2.trans h1.2⟩
theorem bQ.drew (j:J) (w:World) (O:Nat->Prop):bQ j w O j w.drew O :=
 ⟨⟨Nat.le_refl _,fun _ _=>rfl,fun _=>Nat.le_refl _,fun _ _ _=>rfl,fun _ _=>.inl rfl⟩,Nat.le_refl _,fun _ _ _=>⟨rfl,rfl⟩,fun _ _ h=>h,rfl,rfl,eY.rfl⟩
theorem bQ.drop {j j':J}{w w':World}{O O' f:Nat->Prop}(h:bQ j w O j' w' O') (g:∀b,f b->O' b):bQ j w O j' w' f :=
 { h with own:=fun b hb h'=>h.own b hb (g b h') }
def V.under (c:Bool):V->V
 | .a x=>.gd c x
 | .cW i off=>.iY c i off
 | .full k rows=>.oG c k rows
 | _=>.any
theorem V.Am {j:J}{w:World}{jl:List Nat}{x:V}{v:Value}(h:bq j w jl x v):bq j w jl (x.under true) v:=by
 cases x with
 | a x=>exact⟨fun _=>h,fun e=>by cases e⟩
 | cW i off=>exact⟨fun _=>h,fun e=>by cases e⟩
 | full k rows=>exact⟨fun _=>h,fun e=>by cases e⟩
 | _=>trivial
theorem V.An {j:J}{w:World}{jl:List Nat}(x:V):bq j w jl (x.under false) (.tuple #[]):=by
 cases x with
 | a x=>exact⟨(fun e=>by cases e),fun _=>rfl⟩
 | cW i off=>exact⟨(fun e=>by cases e),fun _=>rfl⟩
 | full k rows=>exact⟨(fun e=>by cases e),fun _=>rfl⟩
 | _=>trivial
end Go.Ab
/-
 How the steps of the model change the abstract state: a new block of data,a new object,a new local,a store,an append.
-/
namespace Go.Ab
open Go Go.RowKit
variable {az:bC}
def HL (j:J) (w:World) (jl:List Nat) (ls:List (List D)) (h:ak):Prop:=fC j w h/\Gb j w h ls jl
theorem ig {w:World}{b:Nat}{o:Go.Obj}(h:w.heap[b]?=some o):b<w.heap.size:=by
 rcases Nat.lt_or_ge b w.heap.size with h'|h'
 ·exact h'
 ·rw [Array.getElem?_eq_none h'] at h; simp at h
theorem gb.Ge {j:J}{w:World}{id:Nat}{o:Obj}(h:gb j w id o){b:Nat}(hb:bR j id o=some b):b<w.heap.size:=by
 cases o with
 | cells xs=>obtain⟨cs,e,hh,_⟩:=h; simp only [bR,Option.some.injEq] at hb; subst hb; exact ig hh
 | sy T xs=>obtain⟨cs,hh,_⟩:=h; simp only [bR,Option.some.injEq] at hb; subst hb; exact ig hh
 | fix b' o=>simp only [bR,Option.some.injEq] at hb; subst hb; exact ig h
 | oH b' o=>obtain⟨c,_,hh,_⟩:=h; simp only [bR,Option.some.injEq] at hb; subst hb; exact ig hh
 | map es =>
  obtain⟨b',c,g,c8,ht,hh,_⟩:=h;simp only [bR,ht,Option.bind_some,Option.map_some,Option.some.injEq] at hb;subst hb; exact ig hh
 | tok k m E =>
  obtain⟨dG,ht,hh,_⟩:=h;simp only [bR,ht,Option.bind_some] at hb;cases dG with
  | none=>simp at hb
  | some f =>
   obtain⟨b',cap⟩:=f;simp only [Option.map_some,Option.some.injEq] at hb;subst hb;obtain⟨cs,e,hh,_⟩:=hh _ _ rfl;exact ig hh
 | arr k rows =>
  obtain⟨dG,ht,_,_,_,hh⟩:=h;simp only [bR,ht,Option.bind_some] at hb;cases dG with
  | none=>simp at hb
  | some f =>
   obtain⟨b',cap⟩:=f;simp only [Option.map_some,Option.some.injEq] at hb;subst hb;obtain⟨cs,e,hh,_⟩:=hh _ _ rfl;exact ig hh
theorem bg.lt {j:J}{w:World}{jl:List Nat}{ls:List (List D)}{h:ak}(hl:HL j w jl ls h){b:Nat}(f:bg j h jl b):b<w.heap.size:=by
 rcases f with hm|⟨id,o,hi,hb⟩
 ·obtain⟨i,hi⟩:=List.getElem?_of_mem hm;obtain⟨xs,_,cs,e,hh,_⟩:=hl.2.each.get' hi;exact ig hh
 ·exact(hl.1.obj id o hi).2.Ge hb
theorem jM.mono {j j':J}{w w':World}(hle:Le j w j' w'){e:D×A}{m:MapEntry}(h:jM j w e m):jM j' w' e m:=⟨h.1.mono hle,h.2.mono hle⟩
theorem gb.keep {j j':J}{w w':World}(hle:Le j w j' w'){id:Nat}{o:Obj}(hid:id<j.next) (h:gb j w id o)
  (hb:∀b,bR j id o=some b->w'.heap[b]?=w.heap[b]?/\j'.F b=j.F b) (ht:o.tokd=true->j'.tok id=j.tok id):gb j' w' id o/\bR j' id o=bR j id o:=by
 cases o with
 | cells xs =>
  obtain⟨cs,e,hh,hx,l⟩:=h;obtain⟨f,g⟩:=hb _ rfl;have p:=hle.out id hid;exact⟨⟨cs,e,by rw [p,f]; exact hh,hx.imp fun _ _ h=>h.mono hle,by rw [p,g]; exact l⟩,by simp [bR,p]⟩
 | sy T xs =>
  obtain⟨cs,hh,hx,l⟩:=h;obtain⟨f,g⟩:=hb _ rfl;have p:=hle.out id hid;exact⟨⟨cs,by rw [p,f]; exact hh,hx.imp fun _ _ h=>h.mono hle,by rw [p,g]; exact l⟩,by simp [bR,p]⟩
 | fix b o =>
  obtain⟨f,_⟩:=hb b rfl;exact⟨f.trans h,rfl⟩
 | oH b o =>
  obtain⟨c,r,hh,l⟩:=h;have i:=ht rfl;obtain⟨f,g⟩:=hb b rfl;exact⟨⟨c,by rw [i]; exact r,f.trans hh,by rw [g]; exact l⟩,rfl⟩
 | map es =>
  obtain⟨b,c,x,c8,r,hh,hx,l,hB⟩:=h;have i:=ht rfl;obtain⟨f,g⟩:=hb b (by simp [bR,r]);exact⟨⟨b,c,x,c8,by rw [i]; exact r,by rw [f]; exact hh,hx.imp fun _ _ h=>h.mono hle,by rw [g]; exact l,hB⟩,by simp [bR,i]⟩
 | tok k m E =>
  obtain⟨dG,e,hh,y⟩:=h;have i:=ht rfl;refine⟨⟨dG,by rw [i]; exact e,fun b cap q=>?_,y⟩,by simp [bR,i]⟩;obtain⟨cs,ty,h1,s,t,u,v⟩:=hh b cap q;obtain⟨f,g⟩:=hb b (by simp [bR,e,q]);exact⟨cs,ty,by rw [f]; exact h1,s,by rw [g]; exact t,u,v⟩
 | arr k rows =>
  obtain⟨dG,e,g2,g3,g4,hh⟩:=h;have i:=ht rfl;refine⟨⟨dG,by rw [i]; exact e,g2,g3,g4,fun b cap q=>?_⟩,by simp [bR,i]⟩;obtain⟨cs,ty,h1,s,t,u,v⟩:=hh b cap q;obtain⟨f,g⟩:=hb b (by simp [bR,e,q]);exact⟨cs,ty,by rw [f]; exact h1,s,by rw [g]; exact t,u,v.imp fun _ _ h=>h.mono hle⟩
theorem jN.keep {j j':J}{w w':World}(hle:Le j w j' w'){b:Nat}{xs:List D}(h:jN j w b xs) (hb:w'.heap[b]?=w.heap[b]?/\j'.F b=j.F b):jN j' w' b xs:=by
 obtain⟨cs,e,hh,hx,f⟩:=h;exact⟨cs,e,by rw [hb.1]; exact hh,hx.imp fun _ _ h=>h.mono hle,by rw [hb.2]; exact f⟩
theorem qJ {α β:Type}{R S:α->β->Prop}{l:List α}{m:List β}(hl:bf R l m) (h:∀a b,b∈m->R a b->S a b):bf S l m:=by
 induction hl with
 | nil=>exact .nil
 | cons x _ f=>exact .cons (h _ _ (by simp) x) (f fun a b hb=>h a b (by simp [hb]))
theorem HL.keep {j j':J}{w w':World}{jl:List Nat}{ls:List (List D)}{h:ak}(hl:HL j w jl ls h) (hle:Le j w j' w')
  (hb:∀b,bg j h jl b->w'.heap[b]?=w.heap[b]?/\j'.F b=j.F b) (ht:∀id,id<j.next->(∃o,h id=some o/\o.tokd=true)->j'.tok id=j.tok id)
  (i:∀b,w'.heap.size<=b->j'.F b=0):HL j' w' jl ls h/\∀b,bg j' h jl b↔bg j h jl b:=by
 have key:∀id o,h id=some o->gb j' w' id o/\bR j' id o=bR j id o:=fun id o hi =>
  (hl.1.obj id o hi).2.keep hle (hl.1.obj id o hi).1 (fun b e=>hb b (.inr ⟨id,o,hi,e⟩)) (fun e=>ht id (hl.1.obj id o hi).1 ⟨o,hi,e⟩)
 have f:∀jl b,bg j' h jl b↔bg j h jl b:=by
  intro jl b;constructor
  ·rintro (hm|⟨id,o,hi,e⟩)
   ·exact .inl hm
   ·exact .inr ⟨id,o,hi,(key id o hi).2▸e⟩
  ·rintro (hm|⟨id,o,hi,e⟩)
   ·exact .inl hm
   ·exact .inr ⟨id,o,hi,(key id o hi).2.symm▸e⟩
 refine⟨⟨⟨fun id o hi=>⟨Nat.lt_of_lt_of_le (hl.1.obj id o hi).1 hle.next,(key id o hi).1⟩,fun iZ o1 i_ o2 b h1 g k l=>?_,i⟩,
  ⟨qJ hl.2.each fun xs b hm h=>h.keep hle (hb b (.inl hm)),hl.2.nodup,fun b hm m=>hl.2.apart b hm ((f [] b).1 m)⟩⟩,f jl⟩
 exact hl.1.inj iZ o1 i_ o2 b h1 g ((key iZ o1 h1).2▸k) ((key i_ o2 g).2▸l)
theorem HL.drew {j:J}{w:World}{jl:List Nat}{ls:List (List D)}{h:ak}(hl:HL j w jl ls h):HL j w.drew jl ls h :=
 (hl.keep (@bQ.toLe bC.off _ _ _ _ _ _ (@bQ.drew bC.off j w (bg j h jl))) (fun _ _=>⟨rfl,rfl⟩) (fun _ _ _=>rfl) hl.1.fresh).1
theorem sC {w:World}{o:Go.Obj}{b:Nat}(h:b<w.heap.size):(w.alloc o).heap[b]?=w.heap[b]?:=by
 show (w.heap.push o)[b]?=_;rw [Array.getElem?_push,if_neg (by omega)]
def J.eN (j:J) (b n:Nat):J:={ j with F:=fun x=>if x=b then n else j.F x }
theorem Le.alloc {j:J}{w:World}{o:Go.Obj}(f:∀b,w.heap.size<=b->j.F b=0) (n:Nat):Le j w (j.eN w.heap.size n) (w.alloc o):=by
 refine⟨Nat.le_refl _,fun _ _=>rfl,fun b=>?_,fun b o' g=>?_,fun _ _=>.inl rfl⟩
 ·simp only [J.eN]
  split
  ·rename_i e; rw [f b (by omega)]; exact Nat.zero_le _
  ·exact Nat.le_refl _
 ·have hb:b<w.heap.size:=by
   rcases Nat.lt_or_ge b w.heap.size with h|h
   ·exact h
   ·rw [f b h] at g; omega
  exact World.cell?_alloc_lt w _ _ hb
theorem HL.data {j:J}{w:World}{jl:List Nat}{ls:List (List D)}{h:ak}(hl:HL j w jl ls h) (o:Go.Obj) (n:Nat) :
  HL (j.eN w.heap.size n) (w.alloc o) jl ls h/\bQ j w (bg j h jl) (j.eN w.heap.size n) (w.alloc o) (bg (j.eN w.heap.size n) h jl):=by
 have hle:=Le.alloc (o:=o) hl.1.fresh n;have h1:∀b,b<w.heap.size->(w.alloc o).heap[b]?=w.heap[b]?/\(j.eN w.heap.size n).F b=j.F b:=fun b hb =>
  ⟨sC hb,by simp only [J.eN]; rw [if_neg (by omega)]⟩
 have hk:=hl.keep hle (fun b f=>h1 b (f.lt hl)) (fun _ _ _=>rfl) (fun b hb=>by
  simp only [World.size_alloc] at hb;simp only [J.eN]; rw [if_neg (by omega)]; exact hl.1.fresh b (by omega))
 exact⟨hk.1,{ toLe:=hle,size:=by simp,frame:=fun b hb _=>h1 b hb,own:=fun b _ f=>(hk.2 b).1 f,os:=rfl,tape:=rfl,output:=eY.rfl }⟩
theorem J.qK {j:J}{b:Nat}(h:j.F b=0):j.eN b 0=j:=by
 unfold J.eN;have:(fun x=>if x=b then 0 else j.F x)=j.F:=by
  funext x; split
  ·rename_i e; rw [e,h]
  ·rfl
 rw [this]
theorem HL.loc {j:J}{w:World}{jl:List Nat}{ls:List (List D)}{h:ak}(hl:HL j w jl ls h) (cs:List Value) (e:TypeId) (xs:List D) (hx:bf (aD j w) xs cs) :
  HL j (w.alloc (.cells cs.toArray e)) (jl++[w.heap.size]) (ls++[xs]) h/\bQ j w (bg j h jl) j (w.alloc (.cells cs.toArray e)) (bg j h (jl++[w.heap.size])):=by
 have g:=hl.data (az:=az) (.cells cs.toArray e) 0;rw [J.qK (hl.1.fresh _ (Nat.le_refl _))] at g;obtain⟨hk,i⟩:=g;have k:∀b,b∈jl->b<w.heap.size:=fun b hb=>(bg.lt hl (.inl hb));refine⟨⟨hk.1,⟨hk.2.each.append (.cons ⟨cs,e,heap_alloc_new w _,hx.imp fun _ _ h=>h.mono i.toLe,hl.1.fresh _ (Nat.le_refl _)⟩ .nil), ?_,fun b hb f=>?_⟩⟩, ?_⟩
 ·rw [List.nodup_append];refine⟨hk.2.nodup,by simp,fun a l b hb=>?_⟩;simp at hb; subst hb;have:=k a l; omega
 ·rcases List.mem_append.1 hb with hb|hb
  ·exact hk.2.apart b hb f
  ·simp at hb; subst hb;have:w.heap.size<w.heap.size:=by
    rcases f with f|⟨id,o,hi,e⟩
    ·simp at f
    ·exact bg.lt hl (.inr ⟨id,o,hi,e⟩)
   omega
 ·refine { i with own:=fun b hb f=>?_ };rcases f with f|f
  ·rcases List.mem_append.1 f with f|f
   ·exact .inl f
   ·simp at f; omega
  ·exact .inr f
def J.obj (j:J) (b:Nat):J:={ j with out:=fun x=>if x=j.next then b else j.out x,next:=j.next+1 }
theorem ak.cL (h:ak) (i:Nat) (o:Option Obj):h.set i o i=o:=by simp [ak.set]
theorem ak.cm (h:ak){i n:Nat}(o:Option Obj) (hn:n≠i):h.set i o n=h n:=by simp [ak.set,hn]
theorem ak.set_set (h:ak) (i:Nat) (o o':Option Obj):(h.set i o).set i o'=h.set i o':=by
 funext n; simp only [ak.set]; split<;>rfl
theorem ak.Ao (h:ak) (i:Nat) (o:Option Obj) (hi:h i=o):h.set i o=h:=by
 funext n; simp only [ak.set]; split
 ·rename_i e; rw [e,hi]
 ·rfl
theorem fC.kz {j:J}{w:World}{h:ak}(hr:fC j w h){id:Nat}(hi:j.next<=id):h id=none:=by
 cases e:h id with
 | none=>rfl
 | some o=>have:=(hr.obj id o e).1; omega
theorem HL.obj {j:J}{w:World}{jl:List Nat}{ls:List (List D)}{h:ak}(hl:HL j w jl ls h) (go:Go.Obj) (o:Obj) (l:o.tokd=false)
  (t:gb (j.obj w.heap.size) (w.alloc go) j.next o) :
  HL (j.obj w.heap.size) (w.alloc go) jl ls (h.set j.next (some o)) /\
   bQ j w (bg j h jl) (j.obj w.heap.size) (w.alloc go) (bg (j.obj w.heap.size) (h.set j.next (some o)) jl):=by
 have r:=hl.data (az:=az) go 0;rw [J.qK (hl.1.fresh _ (Nat.le_refl _))] at r;obtain⟨hk,s⟩:=r;have hle:Le j (w.alloc go) (j.obj w.heap.size) (w.alloc go) :=
  ⟨by simp [J.obj],fun id hi=>by simp only [J.obj]; rw [if_neg (by omega)],fun _=>Nat.le_refl _,fun _ _ _=>rfl,fun _ _=>.inl rfl⟩
 have f:=hk.keep hle (fun _ _=>⟨rfl,rfl⟩) (fun _ _ _=>rfl) hk.1.fresh;have hblk:bR (j.obj w.heap.size) j.next o=some w.heap.size:=by
  cases o with
  | tok k m E=>simp [Obj.tokd] at l
  | arr k rows=>simp [Obj.tokd] at l
  | cells xs=>simp [bR,J.obj]
  | sy T xs=>simp [bR,J.obj]
  | map es=>simp [Obj.tokd] at l
  | oH b o=>simp [Obj.tokd] at l
  | fix b o=>simp [Obj.tokd] at l
 have hold:∀id o',h id=some o'->id≠j.next:=fun id o' hi e=>by
  rw [e,hl.1.kz (Nat.le_refl _)] at hi; simp at hi
 have aT:∀id o' b,h id=some o'->bR (j.obj w.heap.size) id o'=some b->b<w.heap.size:=fun id o' b hi e =>
  bg.lt hl ((f.2 b).1 (.inr ⟨id,o',hi,e⟩))
 refine⟨⟨⟨fun id o' hi=>?_,fun iZ o1 i_ o2 b h1 g p q=>?_,hk.1.fresh⟩,⟨f.1.2.each,f.1.2.nodup,fun b hb i=>?_⟩⟩, ?_⟩
 ·by_cases e:id=j.next
  ·subst e; rw [ak.cL] at hi; simp only [Option.some.injEq] at hi; subst hi;exact⟨by simp [J.obj],t⟩
  ·rw [ak.cm h _ e] at hi; exact f.1.1.obj id o' hi
 ·by_cases c1:iZ=j.next<;>by_cases c2:i_=j.next
  ·omega
  ·subst c1; rw [ak.cL] at h1; simp only [Option.some.injEq] at h1; subst h1;rw [ak.cm h _ c2] at g;rw [hblk] at p; simp only [Option.some.injEq] at p;have:=aT i_ o2 b g q; omega
  ·subst c2; rw [ak.cL] at g; simp only [Option.some.injEq] at g; subst g;rw [ak.cm h _ c1] at h1;rw [hblk] at q; simp only [Option.some.injEq] at q;have:=aT iZ o1 b h1 p; omega
  ·rw [ak.cm h _ c1] at h1; rw [ak.cm h _ c2] at g;exact f.1.1.inj iZ o1 i_ o2 b h1 g p q
 ·rcases i with i|⟨id,o',hi,e⟩
  ·simp at i
  ·by_cases c:id=j.next
   ·subst c; rw [ak.cL] at hi; simp only [Option.some.injEq] at hi; subst hi;rw [hblk] at e; simp only [Option.some.injEq] at e;have:=bg.lt hl (.inl hb); omega
   ·rw [ak.cm h _ c] at hi;exact f.1.2.apart b hb (.inr ⟨id,o',hi,e⟩)
 ·refine { toLe:=s.toLe.trans hle,size:=by simp,frame:=fun b hb hn=>s.frame b hb hn,own:=fun b hb i=>?_,os:=rfl,tape:=rfl,output:=eY.rfl };rcases i with i|⟨id,o',hi,e⟩
  ·exact .inl i
  ·by_cases c:id=j.next
   ·subst c; rw [ak.cL] at hi; simp only [Option.some.injEq] at hi; subst hi;rw [hblk] at e; simp only [Option.some.injEq] at e; omega
   ·rw [ak.cm h _ c] at hi;exact(f.2 b).1 (.inr ⟨id,o',hi,e⟩)
end Go.Ab
/-
 Stores: into a local,into an object; slices that grow.
-/
namespace Go.Ab
open Go Go.RowKit
variable {az:bC}
structure eZ [bC] (w w':World) (b:Nat) (o:Go.Obj):Prop where
 size:w'.heap.size=w.heap.size
 here:w'.heap[b]?=some o
 other:∀x,x≠b->w'.heap[x]?=w.heap[x]?
 os:w'.os=w.os
 tape:w'.tape=w.tape
 output:eY w w'
theorem ve {w w':World}{b o:Nat}(h:w'.heap[b]?=w.heap[b]?):w'.cell? ⟨b,o,none⟩=w.cell? ⟨b,o,none⟩:=by simp [World.cell?,h]
theorem eZ.le {j:J}{w w':World}{b:Nat}{o:Go.Obj}(hu:eZ w w' b o) (f:j.F b=0):Le j w j w' :=
 ⟨Nat.le_refl _,fun _ _=>rfl,fun _=>Nat.le_refl _,fun x i hi=>ve (hu.other x fun e=>by rw [e,f] at hi; omega),fun _ _=>.inl rfl⟩
theorem Gf {α β:Type}{R S:α->β->Prop}{l:List α}{m:List β}(hl:bf R l m) (k:m.Nodup){i:Nat}{y:β}(g:m[i]?=some y) (x:α) (hx:S x y)
  (h:∀a b,b∈m->b≠y->R a b->S a b):bf S (l.set i x) m:=by
 refine bf.lT (by simp [hl.length]) fun n a b f hb=>?_;by_cases e:i=n
 ·subst e;rw [g] at hb; simp only [Option.some.injEq] at hb; subst hb;rw [List.getElem?_set] at f;simp only [if_true] at f
  split at f
  ·simp only [Option.some.injEq] at f; subst f; exact hx
  ·simp at f
 ·rw [List.getElem?_set,if_neg e] at f;obtain⟨b',j,hr⟩:=hl.get f;rw [hb] at j; simp only [Option.some.injEq] at j; subst j;refine h _ _ (List.mem_of_getElem? hb) (fun o=>?_) hr;subst o;exact e ((List.getElem?_inj (List.getElem?_eq_some_iff.1 g).1 k).1 (g.trans hb.symm))
theorem HL.Gg {j:J}{w w':World}{jl:List Nat}{ls:List (List D)}{h:ak}(hl:HL j w jl ls h){i b:Nat}(hb:jl[i]?=some b) (g:j.F b=0)
  {cs:List Value}{e:TypeId}(hu:eZ w w' b (.cells cs.toArray e (0,0))){xs:List D}(hx:bf (aD j w) xs cs) :
  HL j w' jl (ls.set i xs) h/\bQ j w (bg j h jl) j w' (bg j h jl):=by
 have hle:=hu.le (j:=j) g;have k:b∈jl:=List.mem_of_getElem? hb;have l:∀x,bg j h [] x->x≠b:=fun x f e=>hl.2.apart b k (e▸f);have hr:fC j w' h/\∀x,bg j h [] x↔bg j h [] x:=by
  have h0:HL j w [] [] h:=⟨hl.1,⟨.nil,by simp,by simp⟩⟩;have:=h0.keep hle (fun x f=>⟨hu.other x (l x f),rfl⟩) (fun _ _ _=>rfl) (fun x hx=>hl.1.fresh x (by rw [hu.size] at hx; exact hx));exact⟨this.1.1,fun _=>Iff.rfl⟩
 refine⟨⟨hr.1,⟨Gf hl.2.each hl.2.nodup hb xs ⟨cs,e,hu.here,hx.imp fun _ _ h=>h.mono hle,g⟩ fun a y _ m h=>h.keep hle ⟨hu.other y m,rfl⟩,hl.2.nodup,hl.2.apart⟩⟩,
  { toLe:=hle,size:=by rw [hu.size]; exact Nat.le_refl _,frame:=fun x _ hn=>⟨hu.other x fun e=>hn (e▸.inl k),rfl⟩,own:=fun _ _ h=>h,os:=hu.os,tape:=hu.tape,output:=hu.output }⟩
theorem HL.setObj {j:J}{w w':World}{jl:List Nat}{ls:List (List D)}{h:ak}(hl:HL j w jl ls h){id:Nat}{o o':Obj}{go:Go.Obj}{B:Nat}(hi:h id=some o)
  (hb:bR j id o=some B) (b:bR j id o'=some B) (p:j.F B=0)
  (hu:eZ w w' B go) (g:gb j w' id o') :
  HL j w' jl ls (h.set id (some o'))/\bQ j w (bg j h jl) j w' (bg j (h.set id (some o')) jl):=by
 have hle:=hu.le (j:=j) p;have i:∀jl x,bg j (h.set id (some o')) jl x↔bg j h jl x:=by
  intro jl x;constructor
  ·rintro (hm|⟨n,q,hn,e⟩)
   ·exact .inl hm
   ·by_cases c:n=id
    ·subst c; rw [ak.cL] at hn; simp only [Option.some.injEq] at hn; subst hn;rw [b] at e; exact .inr ⟨_,o,hi,by rw [hb]; exact e⟩
    ·rw [ak.cm h _ c] at hn; exact .inr ⟨n,q,hn,e⟩
  ·rintro (hm|⟨n,q,hn,e⟩)
   ·exact .inl hm
   ·by_cases c:n=id
    ·subst c; rw [hi] at hn; simp only [Option.some.injEq] at hn; subst hn;rw [hb] at e; exact .inr ⟨_,o',ak.cL _ _ _,by rw [b]; exact e⟩
    ·exact .inr ⟨n,q,by rw [ak.cm h _ c]; exact hn,e⟩
 have r:∀n q x,h n=some q->n≠id->bR j n q=some x->x≠B:=fun n q x hn s e c =>
  s (hl.1.inj n q id o x hn hi e (c▸hb))
 have t:∀x,x∈jl->x≠B:=fun x hx c=>hl.2.apart x hx (.inr ⟨id,o,hi,c▸hb⟩);refine⟨⟨⟨fun n q hn=>?_,fun k u l v x h1 y z C=>?_,fun x hx=>hl.1.fresh x (by rw [hu.size] at hx; exact hx)⟩,
  ⟨qJ hl.2.each fun xs x hx h=>h.keep hle ⟨hu.other x (t x hx),rfl⟩,hl.2.nodup,fun x hx g=>hl.2.apart x hx ((i [] x).1 g)⟩⟩, ?_⟩
 ·by_cases c:n=id
  ·subst c; rw [ak.cL] at hn; simp only [Option.some.injEq] at hn; subst hn;exact⟨(hl.1.obj _ o hi).1,g⟩
  ·rw [ak.cm h _ c] at hn;have:=hl.1.obj n q hn;exact⟨this.1,(this.2.keep hle this.1 (fun x e=>⟨hu.other x (r n q x hn c e),rfl⟩) (fun _=>rfl)).1⟩
 ·have f:∀n q,(h.set id (some o')) n=some q->∃m,h n=some m/\∀x,bR j n q=some x->bR j n m=some x:=by
   intro n q hn;by_cases c:n=id
   ·subst c; rw [ak.cL] at hn; simp only [Option.some.injEq] at hn; subst hn;exact⟨o,hi,fun x e=>by rw [b] at e; rw [hb]; exact e⟩
   ·rw [ak.cm h _ c] at hn; exact⟨q,hn,fun _ e=>e⟩
  obtain⟨E,g1,f1⟩:=f k u h1;obtain⟨G,g2,f2⟩:=f l v y;exact hl.1.inj k E l G x g1 g2 (f1 x z) (f2 x C)
 ·exact { toLe:=hle,size:=(by rw [hu.size]; exact Nat.le_refl _),frame:=(fun x _ hn=>⟨hu.other x (fun c=>hn (.inr ⟨id,o,hi,c▸hb⟩)),rfl⟩),own:=(fun x _ h=>(i jl x).1 h),os:=hu.os,tape:=hu.tape,output:=hu.output }
theorem HL.forget {j:J}{w:World}{jl:List Nat}{ls:List (List D)}{h h':ak}(hl:HL j w jl ls h) (b:∀id o,h' id=some o->h id=some o) :
  HL j w jl ls h'/\bQ j w (bg j h jl) j w (bg j h' jl):=by
 have f:∀jl x,bg j h' jl x->bg j h jl x:=by
  rintro jl x (hm|⟨n,q,hn,e⟩)
  ·exact .inl hm
  ·exact .inr ⟨n,q,b n q hn,e⟩
 exact⟨⟨⟨fun id o hi=>hl.1.obj id o (b id o hi),fun g i k l x h1 m p r=>hl.1.inj g i k l x (b _ _ h1) (b _ _ m) p r,hl.1.fresh⟩,
  ⟨hl.2.each,hl.2.nodup,fun x hx s=>hl.2.apart x hx (f [] x s)⟩⟩,(bQ.refl j w _).drop (f jl)⟩
theorem HL.trim {j:J}{w:World}{jl:List Nat}{ls:List (List D)}{h:ak}(hl:HL j w jl ls h) (n:Nat) :
  HL j w (jl.take n) (ls.take n) h/\bQ j w (bg j h jl) j w (bg j h (jl.take n)) :=
 ⟨⟨hl.1,⟨hl.2.each.take n,hl.2.nodup.sublist (List.take_sublist n jl),fun b hb=>hl.2.apart b (List.mem_of_mem_take hb)⟩⟩,
  (bQ.refl j w _).drop fun _ f=>f.elim (fun x=>.inl (List.mem_of_mem_take x)) .inr⟩
def J.eO (j:J):J:={ j with tok:=fun x=>if x=j.next then some ⟨none,0⟩ else j.tok x,next:=j.next+1 }
theorem HL.eO {j:J}{w:World}{jl:List Nat}{ls:List (List D)}{h:ak}(hl:HL j w jl ls h) (k:Nat) (E:Option TypeId:=none) :
  HL j.eO w jl ls (h.set j.next (some (.tok k 0 E)))/\bQ j w (bg j h jl) j.eO w (bg j.eO (h.set j.next (some (.tok k 0 E))) jl):=by
 have hle:Le j w j.eO w:=⟨by simp [J.eO],fun _ _=>rfl,fun _=>Nat.le_refl _,fun _ _ _=>rfl,fun t ht=>.inl (by simp only [J.eO]; rw [if_neg (by omega)])⟩;have hk:=hl.keep hle (fun _ _=>⟨rfl,rfl⟩) (fun id hid _=>by simp only [J.eO]; rw [if_neg (by omega)]) hl.1.fresh;have g:∀b,bR j.eO j.next (.tok k 0 E)≠some b:=by intro b; simp [bR,J.eO]
 have l:∀jl x,bg j.eO (h.set j.next (some (.tok k 0 E))) jl x->bg j.eO h jl x:=by
  rintro jl x (hm|⟨n,q,hn,e⟩)
  ·exact .inl hm
  ·by_cases c:n=j.next
   ·subst c; rw [ak.cL] at hn; simp only [Option.some.injEq] at hn; subst hn;exact absurd e (g x)
   ·rw [ak.cm h _ c] at hn; exact .inr ⟨n,q,hn,e⟩
 refine⟨⟨⟨fun id o hi=>?_,fun m u p v x h1 f r s=>?_,hl.1.fresh⟩,⟨hk.1.2.each,hk.1.2.nodup,fun x hx i=>hk.1.2.apart x hx (l [] x i)⟩⟩,
  { (bQ.refl j w (bg j h jl)) with toLe:=hle,frame:=fun _ _ _=>⟨rfl,rfl⟩,own:=fun b _ i=>(hk.2 b).1 (l jl b i) }⟩
 ·by_cases c:id=j.next
  ·subst c; rw [ak.cL] at hi; simp only [Option.some.injEq] at hi; subst hi;exact⟨by simp [J.eO],none,by simp [J.eO],(by intro _ _ h; cases h),fun _ _=>rfl⟩
  ·rw [ak.cm h _ c] at hi; exact hk.1.1.obj id o hi
 ·by_cases c1:m=j.next
  ·subst c1; rw [ak.cL] at h1; simp only [Option.some.injEq] at h1; subst h1;exact absurd r (g x)
  ·by_cases c2:p=j.next
   ·subst c2; rw [ak.cL] at f; simp only [Option.some.injEq] at f; subst f;exact absurd s (g x)
   ·rw [ak.cm h _ c1] at h1; rw [ak.cm h _ c2] at f;exact hk.1.1.inj m u p v x h1 f r s
def J.c9 (j:J) (t:Nat) (k:Tk) (b n:Nat):J:={ j with tok:=fun x=>if x=t then some k else j.tok x,F:=fun x=>if x=b then n else j.F x }
def J.eE (j:J) (m:Nat):J:={ j with tok:=fun x=>if x=j.next then some ⟨none,m⟩ else j.tok x,next:=j.next+1 }
theorem HL.eE {j:J}{w:World}{jl:List Nat}{ls:List (List D)}{h:ak}(hl:HL j w jl ls h) (k m:Nat) :
  HL (j.eE m) w jl ls (h.set j.next (some (.tok k m)))/\bQ j w (bg j h jl) (j.eE m) w (bg (j.eE m) (h.set j.next (some (.tok k m))) jl):=by
 have hle:Le j w (j.eE m) w:=⟨by simp [J.eE],fun _ _=>rfl,fun _=>Nat.le_refl _,fun _ _ _=>rfl,fun t ht=>.inl (by simp only [J.eE]; rw [if_neg (by omega)])⟩;have hk:=hl.keep hle (fun _ _=>⟨rfl,rfl⟩) (fun id hid _=>by simp only [J.eE]; rw [if_neg (by omega)]) hl.1.fresh;have g:∀b,bR (j.eE m) j.next (.tok k m)≠some b:=by intro b; simp [bR,J.eE]
 have l:∀jl x,bg (j.eE m) (h.set j.next (some (.tok k m))) jl x->bg (j.eE m) h jl x:=by
  rintro jl x (hm|⟨n,q,hn,e⟩)
  ·exact .inl hm
  ·by_cases c:n=j.next
   ·subst c; rw [ak.cL] at hn; simp only [Option.some.injEq] at hn; subst hn;exact absurd e (g x)
   ·rw [ak.cm h _ c] at hn; exact .inr ⟨n,q,hn,e⟩
 refine⟨⟨⟨fun id o hi=>?_,fun p v r y x h1 f s u=>?_,hl.1.fresh⟩,⟨hk.1.2.each,hk.1.2.nodup,fun x hx i=>hk.1.2.apart x hx (l [] x i)⟩⟩,
  { (bQ.refl j w (bg j h jl)) with toLe:=hle,frame:=fun _ _ _=>⟨rfl,rfl⟩,own:=fun b _ i=>(hk.2 b).1 (l jl b i) }⟩
 ·by_cases c:id=j.next
  ·subst c; rw [ak.cL] at hi; simp only [Option.some.injEq] at hi; subst hi;exact⟨by simp [J.eE],none,by simp [J.eE],(by intro _ _ h; cases h),fun h=>by cases h⟩
  ·rw [ak.cm h _ c] at hi; exact hk.1.1.obj id o hi
 ·by_cases c1:p=j.next
  ·subst c1; rw [ak.cL] at h1; simp only [Option.some.injEq] at h1; subst h1;exact absurd s (g x)
  ·by_cases c2:r=j.next
   ·subst c2; rw [ak.cL] at f; simp only [Option.some.injEq] at f; subst f;exact absurd u (g x)
   ·rw [ak.cm h _ c1] at h1; rw [ak.cm h _ c2] at f;exact hk.1.1.inj p v r y x h1 f s u
theorem HL.grow {j:J}{w w':World}{jl:List Nat}{ls:List (List D)}{h:ak}(hl:HL j w jl ls h){t k m m':Nat}{E:Option TypeId}(ht:h t=some (.tok k m E)) (hm:m<m')
  {b cap:Nat}{cs:Array Value}{e:TypeId}(hb:w'.heap[b]?=some (.cells cs e (0,0))) (N:cs.size=cap*k) (O:m'<=cap)
  (y:∀x,x≠b->x<w.heap.size->w'.heap[x]?=w.heap[x]?) (P:w.heap.size<=w'.heap.size) (ab:w'.heap.size<=max w.heap.size (b+1))
  (l:w.heap.size<=b\/(bR j t (.tok k m E)=some b/\∀o,o<j.F b->w'.cell? ⟨b,o,none⟩=w.cell? ⟨b,o,none⟩))
  (Q:w'.os=w.os) (R:w'.tape=w.tape) (S:eY w w') (U:∀T,E=some T->e=T:=by intro T h; cases h) :
  HL (j.c9 t ⟨some (b,cap),m'⟩ b (m'*k)) w' jl ls (h.set t (some (.tok k m' E))) /\
   bQ j w (bg j h jl) (j.c9 t ⟨some (b,cap),m'⟩ b (m'*k)) w' (bg (j.c9 t ⟨some (b,cap),m'⟩ b (m'*k)) (h.set t (some (.tok k m' E))) jl):=by
 obtain⟨W,dG,K,hblk,_⟩:=hl.1.obj t _ ht;have X:j.F b<=m'*k:=by
  rcases l with hc|⟨hc,_⟩
  ·rw [hl.1.fresh b hc]; exact Nat.zero_le _
  ·simp only [bR,K,Option.bind_some] at hc;cases dG with
   | none=>simp at hc
   | some Y =>
    obtain⟨b',Z⟩:=Y;simp only [Option.map_some,Option.some.injEq] at hc;subst hc;obtain⟨_,_,_,_,aa,_⟩:=hblk _ _ rfl;rw [aa]; exact Nat.mul_le_mul_right _ (Nat.le_of_lt hm)
 have hle:Le j w (j.c9 t ⟨some (b,cap),m'⟩ b (m'*k)) w':=by
  refine⟨Nat.le_refl _,fun _ _=>rfl,fun x=>?_,fun x o i=>?_,fun x hx=>?_⟩
  ·simp only [J.c9]; split
   ·rename_i c; rw [c]; exact X
   ·exact Nat.le_refl _
  ·by_cases c:x=b
   ·subst c;rcases l with hc|⟨_,hc⟩
    ·rw [hl.1.fresh x hc] at i; omega
    ·exact hc o i
   ·refine ve (y x c ?_);rcases Nat.lt_or_ge x w.heap.size with h1|h1
    ·exact h1
    ·rw [hl.1.fresh x h1] at i; omega
  ·by_cases c:x=t
   ·subst c; exact .inr ⟨_,⟨some (b,cap),m'⟩,K,by simp [J.c9],hm⟩
   ·exact .inl (by simp [J.c9,c])
 -- the others' blocks are not b
 have z:∀n q x,h n=some q->n≠t->bR j n q=some x->x≠b:=fun n q x hn g hx c=>by
  subst c;rcases l with hc|⟨hc,_⟩
  ·have:=bg.lt hl (.inr ⟨n,q,hn,hx⟩); omega
  ·exact g (hl.1.inj n q t _ x hn ht hx hc)
 have H:∀x,x∈jl->x≠b:=fun x hx c=>by
  subst c;rcases l with hc|⟨hc,_⟩
  ·have:=bg.lt hl (.inl hx); omega
  ·exact hl.2.apart x hx (.inr ⟨t,_,ht,hc⟩)
 have B:∀x,x≠b->(j.c9 t ⟨some (b,cap),m'⟩ b (m'*k)).F x=j.F x:=fun x hx=>by simp [J.c9,hx]
 have p:∀n q,h n=some q->n≠t->gb (j.c9 t ⟨some (b,cap),m'⟩ b (m'*k)) w' n q/\bR (j.c9 t ⟨some (b,cap),m'⟩ b (m'*k)) n q=bR j n q:=fun n q hn g =>
  (hl.1.obj n q hn).2.keep hle (hl.1.obj n q hn).1 (fun x hx=>⟨y x (z n q x hn g hx) (bg.lt hl (.inr ⟨n,q,hn,hx⟩)),B x (z n q x hn g hx)⟩)
   (fun _=>by simp [J.c9,g])
 have I:bR (j.c9 t ⟨some (b,cap),m'⟩ b (m'*k)) t (.tok k m' E)=some b:=by simp [bR,J.c9]
 have L:∀jl x,bg (j.c9 t ⟨some (b,cap),m'⟩ b (m'*k)) (h.set t (some (.tok k m' E))) jl x->x=b\/bg j h jl x:=by
  rintro jl x (hx|⟨n,q,hn,hx⟩)
  ·exact .inr (.inl hx)
  ·by_cases c:n=t
   ·subst c; rw [ak.cL] at hn; simp only [Option.some.injEq] at hn; subst hn;rw [I] at hx; simp only [Option.some.injEq] at hx; exact .inl hx.symm
   ·rw [ak.cm h _ c] at hn;exact .inr (.inr ⟨n,q,hn,(p n q hn c).2▸hx⟩)
 refine⟨⟨⟨fun n q hn=>?_,fun r C s G x h1 f u v=>?_,fun x hx=>?_⟩,
  ⟨qJ hl.2.each fun xs x hx h=>h.keep hle ⟨y x (H x hx) (bg.lt hl (.inl hx)),B x (H x hx)⟩,hl.2.nodup,fun x hx i=>?_⟩⟩, ?_⟩
 ·by_cases c:n=t
  ·subst c; rw [ak.cL] at hn; simp only [Option.some.injEq] at hn; subst hn;refine⟨W,some (b,cap),by simp [J.c9],fun b' Z M=>?_,fun _ h=>by cases h⟩;simp only [Option.some.injEq,Prod.mk.injEq] at M;obtain⟨rfl,rfl⟩:=M;exact⟨cs,e,hb,N,by simp [J.c9],O,U⟩
  ·rw [ak.cm h _ c] at hn;exact⟨(hl.1.obj n q hn).1,(p n q hn c).1⟩
 ·by_cases c1:r=t<;>by_cases c2:s=t
  ·omega
  ·subst c1; rw [ak.cL] at h1; simp only [Option.some.injEq] at h1; subst h1;rw [ak.cm h _ c2] at f;rw [I] at u; simp only [Option.some.injEq] at u;exact absurd u.symm (z s G x f c2 ((p s G f c2).2▸v))
  ·subst c2; rw [ak.cL] at f; simp only [Option.some.injEq] at f; subst f;rw [ak.cm h _ c1] at h1;rw [I] at v; simp only [Option.some.injEq] at v;exact absurd v.symm (z r C x h1 c1 ((p r C h1 c1).2▸u))
  ·rw [ak.cm h _ c1] at h1; rw [ak.cm h _ c2] at f;exact hl.1.inj r C s G x h1 f ((p r C h1 c1).2▸u) ((p s G f c2).2▸v)
 ·have ad:=ig hb;rw [B x (by omega)];exact hl.1.fresh x (by omega)
 ·rcases L [] x i with c|c
  ·exact H x hx c
  ·exact hl.2.apart x hx c
 ·refine { toLe:=hle,size:=P,frame:=fun x hx hn=>?_,own:=fun x hx i=>?_,os:=Q,tape:=R,output:=S }
  ·have g:x≠b:=fun c=>by
    subst c;rcases l with hc|⟨hc,_⟩
    ·omega
    ·exact hn (.inr ⟨t,_,ht,hc⟩)
   exact⟨y x g hx,B x g⟩
  ·rcases L jl x i with c|c
   ·subst c;rcases l with hc|⟨hc,_⟩
    ·omega
    ·exact .inr ⟨t,_,ht,hc⟩
   ·exact c
theorem HL.Gh {j:J}{w:World}{jl:List Nat}{ls:List (List D)}{h:ak}(hl:HL j w jl ls h){t k:Nat}(ht:h t=some (.tok k 0)) :
  HL (j.c9 t ⟨some (w.heap.size,0),1⟩ w.heap.size 0) (w.alloc (.map #[] 0)) jl ls (h.set t (some (.map []))) /\
   bQ j w (bg j h jl) (j.c9 t ⟨some (w.heap.size,0),1⟩ w.heap.size 0) (w.alloc (.map #[] 0)) (bg (j.c9 t ⟨some (w.heap.size,0),1⟩ w.heap.size 0) (h.set t (some (.map []))) jl) /\
   bq (j.c9 t ⟨some (w.heap.size,0),1⟩ w.heap.size 0) (w.alloc (.map #[] 0)) jl (.a (.d (.map t))) (.map (some w.heap.size)):=by
 obtain⟨G,dG,M,hblk,_⟩:=hl.1.obj t _ ht;have H:j.F w.heap.size=0:=hl.1.fresh _ (Nat.le_refl _);have r:∀x,x<w.heap.size->(w.alloc (.map #[] 0)).heap[x]?=w.heap[x]?:=fun x hx=>sC hx;generalize i:j.c9 t ⟨some (w.heap.size,0),1⟩ w.heap.size 0=j';have f:∀x,j'.F x=j.F x:=fun x=>by
  subst i; simp only [J.c9]; split
  ·rename_i c; rw [c,H]
  ·rfl
 have B:j'.next=j.next:=by subst i; rfl
 have s:j'.tok t=some ⟨some (w.heap.size,0),1⟩:=by subst i; simp [J.c9]
 have I:∀x,x≠t->j'.tok x=j.tok x:=fun x hx=>by subst i; simp [J.c9,hx]
 have hle:Le j w j' (w.alloc (.map #[] 0)):=by
  refine⟨by rw [B]; exact Nat.le_refl _,fun _ _=>by subst i; rfl,fun x=>by rw [f]; exact Nat.le_refl _,fun x o l=>?_,fun x hx=>?_⟩
  ·refine ve (r x ?_);rcases Nat.lt_or_ge x w.heap.size with h1|h1
   ·exact h1
   ·rw [hl.1.fresh x h1] at l; omega
  ·by_cases c:x=t
   ·subst c; exact .inr ⟨_,_,M,s,Nat.zero_lt_one⟩
   ·exact .inl (I x c)
 have C:∀n q x,h n=some q->bR j n q=some x->x<w.heap.size:=fun n q x hn hx=>bg.lt hl (.inr ⟨n,q,hn,hx⟩);have K:∀x,x∈jl->x<w.heap.size:=fun x hx=>bg.lt hl (.inl hx);have g:∀n q,h n=some q->n≠t->gb j' (w.alloc (.map #[] 0)) n q/\bR j' n q=bR j n q:=fun n q hn N =>
  (hl.1.obj n q hn).2.keep hle (hl.1.obj n q hn).1 (fun x hx=>⟨r x (C n q x hn hx),f x⟩) (fun _=>I n N)
 have E:bR j' t (.map [])=some w.heap.size:=by simp [bR,s]
 have L:∀jl x,bg j' (h.set t (some (.map []))) jl x->x=w.heap.size\/bg j h jl x:=by
  rintro jl x (hx|⟨n,q,hn,hx⟩)
  ·exact .inr (.inl hx)
  ·by_cases c:n=t
   ·subst c; rw [ak.cL] at hn; simp only [Option.some.injEq] at hn; subst hn;rw [E] at hx; simp only [Option.some.injEq] at hx; exact .inl hx.symm
   ·rw [ak.cm h _ c] at hn;exact .inr (.inr ⟨n,q,hn,(g n q hn c).2▸hx⟩)
 refine⟨⟨⟨fun n q hn=>?_,fun m u p v x h1 b y z=>?_,fun x hx=>?_⟩,
  ⟨qJ hl.2.each fun xs x hx h=>h.keep hle ⟨r x (K x hx),f x⟩,hl.2.nodup,fun x hx l=>?_⟩⟩, ?_, ?_⟩
 ·rw [B];by_cases c:n=t
  ·subst c; rw [ak.cL] at hn; simp only [Option.some.injEq] at hn; subst hn;exact⟨G,w.heap.size,0,[],0,s,heap_alloc_new w _,.nil,by rw [f]; exact H,List.nodup_nil,(fun _ h=>by cases h),List.nodup_nil⟩
  ·rw [ak.cm h _ c] at hn;exact⟨(hl.1.obj n q hn).1,(g n q hn c).1⟩
 ·by_cases c1:m=t<;>by_cases c2:p=t
  ·omega
  ·subst c1; rw [ak.cL] at h1; simp only [Option.some.injEq] at h1; subst h1;rw [ak.cm h _ c2] at b;rw [E] at y; simp only [Option.some.injEq] at y;have:=C p v x b ((g p v b c2).2▸z); omega
  ·subst c2; rw [ak.cL] at b; simp only [Option.some.injEq] at b; subst b;rw [ak.cm h _ c1] at h1;rw [E] at z; simp only [Option.some.injEq] at z;have:=C m u x h1 ((g m u h1 c1).2▸y); omega
  ·rw [ak.cm h _ c1] at h1; rw [ak.cm h _ c2] at b;exact hl.1.inj m u p v x h1 b ((g m u h1 c1).2▸y) ((g p v b c2).2▸z)
 ·rw [f];simp only [World.size_alloc] at hx;exact hl.1.fresh x (by omega)
 ·rcases L [] x l with c|c
  ·have:=K x hx; omega
  ·exact hl.2.apart x hx c
 ·refine { toLe:=hle,size:=(by simp),frame:=fun x hx hn=>⟨r x hx,f x⟩,own:=fun x hx l=>?_,os:=rfl,tape:=rfl,output:=eY.rfl };rcases L jl x l with c|c
  ·omega
  ·exact c
 ·show aD j' (w.alloc (.map #[] 0)) (.map t) (.map (some w.heap.size));refine .map t w.heap.size (by rw [B]; exact G) fun tk hk=>?_;rw [s] at hk;obtain rfl:=Option.some.inj hk;exact⟨Nat.le_refl _,fun _=>⟨0,rfl⟩⟩
end Go.Ab
/-
 The abstract state of a running function,one operation,a region in the order of its text.
-/
namespace Go.Ab
open Go Go.RowKit
variable {az:bC}
class eF where
 ds:List Deferred
instance (priority:=low) eF.nothing:eF:=⟨[]⟩
variable {ii:eF}
abbrev Ts:=List (Nat×V)
def get:Ts->Nat->V
 | [],_=>.any
 | (k,v)::r,n=>bif Nat.beq k n then v else get r n
theorem fm (k:Nat) (v:V) (r:Ts):get ((k,v)::r) k=v:=by simp [get]
theorem gf {k n:Nat}(v:V) (r:Ts) (h:k≠n):get ((k,v)::r) n=get r n:=by
 have:Nat.beq k n=false:=Bool.eq_false_iff.2 fun e=>h (Nat.eq_of_beq_eq_true e);simp [get,this]
structure St where
 n:Nat
 ts:Ts
 ls:List (List D)
 h:ak
def oK:Value->Option D
 | .bool b=>some (.bool b)
 | .int k n=>some (.int k n)
 | .string s=>bif Nat.ble s.data.toList.length gD then some (.str s.data.toList) else none
 | .slice none 0 0=>some (.slice 0 none true [])
 | .pointer none=>some .dS
 | .map none=>some .nw
 | .nilFunc=>some .nilFunc
 | .nilIface=>some .nilIface
 | _=>none
def Ap (v:Value):V :=
 match oK v with
 | some x=>.a (.d x)
 | none=>.any
def ev (ts:Ts):Operand->V
 | .tmp t=>get ts t
 | .const v=>Ap v
 | .global _=>.any
 | .func f=>.a (.d (.func f []))
theorem vf (j:J) (w:World) (v:Value) (x:D) (h:oK v=some x):aD j w x v:=by
 unfold oK at h
 split at h<;>simp at h
 ·subst h; exact .bool _
 ·subst h; exact .int _ _
 ·rename_i s
  cases c:Nat.ble s.size gD with
  | false=>rw [c] at h; simp at h
  | true =>
   rw [c] at h; simp at h;subst h;have:=aD.str (j:=j) (w:=w) s.data.toList (by simpa using Nat.le_of_ble_eq_true c)
   simpa using this
 ·subst h; exact .eU _ _ (by simp)
 ·subst h; exact .dS
 ·subst h; exact .nw
 ·subst h; exact .nilFunc
 ·subst h; exact .nilIface
theorem ny {j:J}{w:World}{jl:List Nat}{ts:Ts}{a:Act}(h:∀k,bq j w jl (get ts k) (a.tmps.getD k undef)) (x:Operand):bq j w jl (ev ts x) (a.eval x):=by
 cases x with
 | tmp t=>exact h t
 | const v =>
  simp only [ev,Ap,Act.eval]
  split
  ·rename_i x hx; exact vf j w v x hx
  ·trivial
 | global g=>trivial
 | func f=>exact aD.func f [] [] rfl (by simp)
structure fD [eF] (j:J) (w:World) (jl:List Nat) (σ:St) (a:Act):Prop where
 defers:a.defers=eF.ds
 size:a.tmps.size=σ.n
 tmps:∀k,bq j w jl (get σ.ts k) (a.tmps.getD k undef)
 hl:HL j w jl σ.ls σ.h
structure Fx where
 rl:Bool:=false
 wl:Bool:=false
 rh:Bool:=false
 wh:Bool:=false
 nu:Bool:=false
def di [bC] (P:Program) (o:Oper) (ts:Ts) (ls:List (List D)) (h:ak) (R:V->List (List D)->ak->Prop):Prop :=
 ∀(j:J) (w:World) (jl:List Nat) (a:Act),HL j w jl ls h->(∀x,x∈o.op.operands->bq j w jl (ev ts x) (a.eval x)) ->
  ∀(K:Act->World->Prop) (Q:Exit->Act->World->Prop),
   (∀v aH h' cv j' w' b,R v aH h'->bq j' w' b v cv->HL j' w' b aH h'->Ext jl b->bQ j w (bg j h jl) j' w' (bg j' h' b)->K (a.put o.dst cv) w')->o.wp P a w K Q
def aq [bC] (P:Program) (o:Oper) (ts:Ts) (ls:List (List D)) (h:ak) (fx:Fx) (v:V) (aH:List (List D)) (h':ak):Prop :=
 ∀L H,((fx.rl||fx.wl)=true->L=ls)->((fx.rh||fx.wh)=true->H=h) ->
  di P o ts L H fun u l k=>u=v/\l=(bif fx.wl then aH else L)/\k=(bif fx.wh then h' else H)
theorem aq.step {P:Program}{o:Oper}{ts:Ts}{ls aH:List (List D)}{h h':ak}{fx:Fx}{v:V}(hc:aq P o ts ls h fx v aH h') :
  di P o ts ls h fun u l k=>u=v/\l=(bif fx.wl then aH else ls)/\k=(bif fx.wh then h' else h) :=
 hc ls h (fun _=>rfl) (fun _=>rfl)
theorem di.mono {P:Program}{o:Oper}{ts:Ts}{ls:List (List D)}{h:ak}{R b:V->List (List D)->ak->Prop}(f:di P o ts ls h R) (hr:∀v l k,R v l k->b v l k):di P o ts ls h b :=
 fun j w jl a hl g K Q hk=>f j w jl a hl g K Q fun v aH h' cv j' w' i r=>hk v aH h' cv j' w' i (hr _ _ _ r)
def ij (dst:Option Tmp) (v:V) (ts:Ts):Ts :=
 match dst with
 | some d=>(d,v)::ts
 | none=>ts
def jO (dst:Option Tmp) (n:Nat):Bool :=
 match dst with
 | some d=>Nat.blt d n
 | none=>true
theorem Gi {j:J}{w:World}{jl:List Nat}{ts:Ts}{a:Act}{n:Nat}(b:a.tmps.size=n) (h:∀k,bq j w jl (get ts k) (a.tmps.getD k undef)){dst:Option Tmp}(f:jO dst n=true)
  {v:V}{cv:Value}(hv:bq j w jl v cv):∀k,bq j w jl (get (ij dst v ts) k) ((a.put dst cv).tmps.getD k undef):=by
 intro k;cases dst with
 | none=>exact h k
 | some d =>
  simp only [ij,Act.put];have aT:d<a.tmps.size:=by
   have:Nat.blt d n=true:=f;rw [b]; simpa [Nat.blt_eq] using this
  by_cases e:d=k
  ·subst e;rw [fm]
   simpa [Array.getD_eq_getD_getElem?,aT] using hv
  ·rw [gf _ _ e];have:=h k
   simpa [Array.getD_eq_getD_getElem?,Array.getElem?_setIfInBounds,e] using this
theorem vg (a:Act) (dst:Option Tmp) (v:Value):(a.put dst v).tmps.size=a.tmps.size:=by cases dst<;>simp [Act.put]
theorem put_defers (a:Act) (dst:Option Tmp) (v:Value):(a.put dst v).defers=a.defers:=by cases dst<;>rfl
theorem fD.put {j j':J}{w w':World}{jl b:List Nat}{σ:St}{a:Act}(h:fD j w jl σ a) (hle:Le j w j' w') (hx:Ext jl b){dst:Option Tmp}(f:jO dst σ.n=true)
  {v:V}{cv:Value}(hv:bq j' w' b v cv){aH:List (List D)}{h':ak}(hl:HL j' w' b aH h'):fD j' w' b ⟨σ.n,ij dst v σ.ts,aH,h'⟩ (a.put dst cv) :=
 ⟨by rw [put_defers]; exact h.defers,by rw [vg]; exact h.size,Gi h.size (fun k=>(h.tmps k).mono hle hx) f hv,hl⟩
def guardOf (ops:Array Oper) (o:Oper):Option (Nat×Bool) :=
 match o.guard with
 | none=>none
 | some (g,want)=>match (ops[g]?).bind (·.dst) with
  | some d=>some (d,want)
  | none=>none
theorem sD {ops:Array Oper}{o:Oper}{tmps:Array Value}(h:o.guard=none):Region.wanted o (yielded ops tmps)=true:=by simp [Region.wanted,h]
theorem Aq {j:J}{w:World}{jl:List Nat}{ts:Ts}{a:Act}{ops:Array Oper}{o:Oper}{d:Nat}{want b:Bool}(hg:guardOf ops o=some (d,want))
  (f:get ts d=.a (.d (.bool b))) (h:bq j w jl (get ts d) (a.tmps.getD d undef)):Region.wanted o (yielded ops a.tmps)=(b==want):=by
 unfold guardOf at hg;rw [f] at h;have hv:a.tmps.getD d undef=.bool b:=by
  have h':aD j w (.bool b) (a.tmps.getD d undef):=h;generalize a.tmps.getD d undef=x at h';cases h'; rfl
 have i:a.tmps[d]?=some (.bool b):=by
  rw [Array.getD_eq_getD_getElem?] at hv;cases e:a.tmps[d]? with
  | none=>rw [e] at hv; simp [undef] at hv
  | some x=>rw [e] at hv; simp at hv; rw [hv]
 split at hg
 ·simp at hg
 ·rename_i g k l
  split at hg
  ·rename_i p m
   simp only [Option.some.injEq,Prod.mk.injEq] at hg;obtain⟨rfl,rfl⟩:=hg;simp only [Region.wanted,l,yielded,m,Option.bind_some,i];cases b<;>cases k<;>rfl
  ·simp at hg
def aO [bC] [eF] (P:Program) (ops:Array Oper) (l:List Oper) (Q:St->Prop) (σ:St):Prop :=
 ∀(j:J) (w:World) (jl:List Nat) (a:Act),fD j w jl σ a->∀(f:Exit->Act->World->Prop),
  (∀b j' w' g a',Q b->fD j' w' g b a'->bQ j w (bg j σ.h jl) j' w' (bg j' b.h g)->f .normal a' w')->wpList P ops f l a w
section
variable {P:Program}{ops:Array Oper}{rest:List Oper}{o:Oper}{Q:St->Prop}{n:Nat}{ts:Ts}{ls:List (List D)}{h:ak}
theorem aO.nil {σ:St}(hq:Q σ):aO P ops [] Q σ:=fun _ _ _ _ b _ hk=>hk _ _ _ _ _ hq b (bQ.refl _ _ _)
theorem aO.run {R:V->List (List D)->ak->Prop}(l:di P o ts ls h R) (m:jO o.dst n=true)
  (hr:∀v aH h',R v aH h'->aO P ops rest Q ⟨n,ij o.dst v ts,aH,h'⟩)
  {j:J}{w:World}{jl:List Nat}{a:Act}(i:fD j w jl ⟨n,ts,ls,h⟩ a) (p:Region.wanted o (yielded ops a.tmps)=true) (f:Exit->Act->World->Prop)
  (hk:∀b j' w' g a',Q b->fD j' w' g b a'->bQ j w (bg j h jl) j' w' (bg j' b.h g)->f .normal a' w'):wpList P ops f (o::rest) a w:=by
 refine wpList_step fun K q=>?_;rw [if_pos p];refine l j w jl a i.hl (fun x _=>ny i.tmps x) K f fun v aH h' cv j' w' g r hv hl hx k=>q _ _ ?_;exact hr v aH h' r j' w' g _ (i.put k.toLe hx m hv hl) f fun b s t u a2 hq y z=>hk b s t u a2 hq y (k.trans z)
theorem aO.Ar {R:V->List (List D)->ak->Prop}(b:di P o ts ls h R) (hg:o.guard=none) (f:jO o.dst n=true)
  (hr:∀v aH h',R v aH h'->aO P ops rest Q ⟨n,ij o.dst v ts,aH,h'⟩):aO P ops (o::rest) Q ⟨n,ts,ls,h⟩ :=
 fun _ _ _ _ g i hk=>aO.run b f hr g (sD hg) i hk
theorem aO.step {fx:Fx}{v:V}{aH:List (List D)}{h':ak}(b:aq P o ts ls h fx v aH h') (hg:o.guard=none) (f:jO o.dst n=true)
  (hr:aO P ops rest Q ⟨n,ij o.dst v ts,(bif fx.wl then aH else ls),(bif fx.wh then h' else h)⟩):aO P ops (o::rest) Q ⟨n,ts,ls,h⟩ :=
 aO.Ar b.step hg f fun _ _ _ ⟨g,i,j⟩=>by rw [g,i,j]; exact hr
end
end Go.Ab
/-
 A region that draws its order: one walk in the order of the text serves every order,where what is not ordered does not meet.
-/
namespace Go.Ab
open Go Go.RowKit
variable {az:bC}
def kA [bC] (P:Program) (ops:Array Oper) (n:Nat) (o:Oper) (ts:Ts) (ls:List (List D)) (h:ak) (fx:Fx) (v:V) (aH:List (List D)) (h':ak):Prop :=
 jO o.dst n=true/\∀L H,((fx.rl||fx.wl)=true->L=ls)->((fx.rh||fx.wh)=true->H=h) ->
  ∀(j:J) (w:World) (jl:List Nat) (a:Act),HL j w jl L H->(∀t,t∈o.looksAt ops->bq j w jl (get ts t) (a.tmps.getD t undef)) ->
   ∀(K:Act->World->Prop) (Q:Exit->Act->World->Prop),
    (∀cv j' w' b,bq j' w' b v cv->HL j' w' b (bif fx.wl then aH else L) (bif fx.wh then h' else H)->Ext jl b ->
     bQ j w (bg j H jl) j' w' (bg j' (bif fx.wh then h' else H) b)->K (a.put o.dst cv) w') ->
    if Region.wanted o (yielded ops a.tmps) then o.wp P a w K Q else K (a.put o.dst undef) w
theorem Au {j:J}{w:World}{jl:List Nat}{ts:Ts}{a:Act}{ops:Array Oper}{o:Oper}(h:∀t,t∈o.looksAt ops->bq j w jl (get ts t) (a.tmps.getD t undef)) :
  ∀x,x∈o.op.operands->bq j w jl (ev ts x) (a.eval x):=by
 intro x hx;cases x with
 | tmp t=>exact h t (by simp only [Oper.looksAt,List.mem_append,List.mem_filterMap]; exact .inl ⟨.tmp t,by simpa using hx,rfl⟩)
 | const v=>exact ny (ts:=[]) (a:=⟨#[],[]⟩) (fun _=>trivial) (.const v)
 | global g=>trivial
 | func f=>exact ny (ts:=[]) (a:=⟨#[],[]⟩) (fun _=>trivial) (.func f)
theorem Gj {ops:Array Oper}{o:Oper}{d:Nat}{want:Bool}(hg:guardOf ops o=some (d,want)):d∈o.looksAt ops:=by
 unfold guardOf at hg
 split at hg
 ·simp at hg
 ·rename_i g i b
  split at hg
  ·rename_i j f
   simp only [Option.some.injEq,Prod.mk.injEq] at hg;obtain⟨rfl,rfl⟩:=hg;simp only [Oper.looksAt,b,List.mem_append]
   right
   rw [f]; simp
  ·simp at hg
section
variable {P:Program}{ops:Array Oper}{o:Oper}{n:Nat}{ts:Ts}{ls aH:List (List D)}{h h':ak}{fx:Fx}{v:V}
theorem kA.plain (b:aq P o ts ls h fx v aH h') (hg:o.guard=none) (f:jO o.dst n=true):kA P ops n o ts ls h fx v aH h':=by
 refine⟨f,fun L H g hH j w jl a hl i K Q hk=>?_⟩;rw [if_pos (sD hg)];exact b L H g hH j w jl a hl (Au i) K Q fun _ _ _ cv j' w' k ⟨l,m,p⟩=>by subst l m p; exact hk cv j' w' k
end
def nA (o:Oper) (acc:List Nat):Nat:=o.after.toList.foldl (fun s e=>bif Region.binds .any e then s ||| (2 ^ e.on) ||| acc.getD e.on 0 else s) 0
def gE:List Oper->List Nat->List Nat
 | [],acc=>acc
 | o::r,acc=>gE r (acc++[nA o acc])
theorem Av:∀(l:List Oper) (acc:List Nat),(gE l acc).length=acc.length+l.length/\(gE l acc).take acc.length=acc /\
  ∀k o,l[k]?=some o->(gE l acc)[acc.length+k]?=some (nA o ((gE l acc).take (acc.length+k)))
 | [],acc=>by simp [gE]
 | o::r,acc=>by
  obtain⟨h1,b,f⟩:=Av r (acc++[nA o acc]);simp only [List.length_append,List.length_cons,List.length_nil] at h1 b f;have g:(gE r (acc++[nA o acc])).take acc.length=acc:=by
   have:=congrArg (List.take acc.length) b;rw [List.take_take] at this
   simpa using this
  refine⟨by simp only [gE]; rw [h1]; simp; omega,g,fun k o' hk=>?_⟩;simp only [gE];cases k with
  | zero =>
   simp only [List.getElem?_cons_zero,Option.some.injEq] at hk;subst hk;rw [Nat.add_zero,g];have i:((gE r (acc++[nA o acc])).take (acc.length+(0+1)))[acc.length]?=(acc++[nA o acc])[acc.length]?:=by rw [b]
   rw [List.getElem?_take_of_lt (by omega)] at i;rw [i]; simp
  | succ k =>
   simp only [List.getElem?_cons_succ] at hk;have:=f k o' hk;have e:acc.length+(0+1)+k=acc.length+(k+1):=by omega
   rw [e] at this;exact this
theorem Aw (acc:List Nat) (p:Nat):∀(es:List Edge) (s:Nat),(es.foldl (fun s e=>bif Region.binds .any e then s ||| (2 ^ e.on) ||| acc.getD e.on 0 else s) s).testBit p=true ->
  s.testBit p=true\/∃e,e∈es/\Region.binds .any e=true/\(p=e.on\/(acc.getD e.on 0).testBit p=true)
 | [],s,h=>.inl h
 | e::es,s,h=>by
  simp only [List.foldl_cons] at h;rcases Aw acc p es _ h with h1|⟨b,h1,f,g⟩
  ·cases hb:Region.binds .any e with
   | false=>rw [hb] at h1; exact .inl h1
   | true =>
    rw [hb] at h1;simp only [cond_true,Nat.testBit_or,Bool.or_eq_true] at h1;rcases h1 with (h1|h1)|h1
    ·exact .inl h1
    ·exact .inr ⟨e,by simp,hb,.inl (by rw [Nat.testBit_two_pow] at h1; exact(of_decide_eq_true h1).symm)⟩
    ·exact .inr ⟨e,by simp,hb,.inr h1⟩
  ·exact .inr ⟨b,by simp [h1],f,g⟩
def Fx.fN (x y:Fx):Bool:=(x.wl&&(y.rl||y.wl))||(y.wl&&x.rl)||(x.wh&&(y.rh||y.wh))||(y.wh&&x.rh)
def Fx.plain (x:Fx):Fx:={ x with nu:=false }
def Ax (T:List Nat) (i k:Nat):Bool:=T.all fun m=>!m.testBit k||m.testBit i
def Ay (ops:Array Oper) (T:List Nat) (l:List (Oper×Fx)):Bool :=
 (List.range l.length).all fun k=>match l[k]? with
  | none=>true
  | some (ok,b)=>ok.after.toList.all (fun e=>!Region.binds .any e||Nat.blt e.on k) &&
   (List.range k).all fun i=>match l[i]? with
    | none=>true
    | some (oi,f)=>(T.getD k 0).testBit i||(oi.apart ops ok&&!f.fN b)||(b.nu&&oi.apart ops ok&&Ax T i k)
def sF (ops:Array Oper) (b:List Fx):Bool:=Ay ops (gE ops.toList []) (ops.toList.zip b)
def ord (ops:Array Oper) (i k:Nat):Prop:=((gE ops.toList []).getD k 0).testBit i=true
def oL (P:Program) (o:Oper) (v:V) (ls aH:List (List D)):Prop :=
 ∃(z:List D) (d:Nat),o.guard=none/\o.dst=some d/\v=.cW ls.length 0/\aH=ls++[z] /\
  ∃(cs:List Value) (e:TypeId),(∀j w,bf (aD j w) z cs) /\
   ∀(a:Act) (w:World) (K:Act->World->Prop) (Q:Exit->Act->World->Prop),K (a.put o.dst (.pointer (some ⟨w.heap.size,0,none⟩))) (w.alloc (.cells cs.toArray e))->o.wp P a w K Q
def vh [bC] (P:Program) (ops:Array Oper) (n:Nat) (S:Nat->St) (fx:Nat->Fx) (v:Nat->V) (k:Nat) (o:Oper):Prop :=
 kA P ops n o (S k).ts (S k).ls (S k).h (fx k) (v k) (S (k+1)).ls (S (k+1)).h/\(S (k+1)).n=(S k).n/\(S (k+1)).ts=ij o.dst (v k) (S k).ts /\
  ((fx k).wl=false->(S (k+1)).ls=(S k).ls)/\((fx k).wh=false->(S (k+1)).h=(S k).h) /\
  ((fx k).nu=true->(fx k).wl=true/\(fx k).wh=false/\oL P o (v k) (S k).ls (S (k+1)).ls)
def au [bC] (P:Program) (ops:Array Oper) (n:Nat) (l:List Oper) (done:List Fx) (Q:St->Prop) (σ:St):Prop :=
 ∃(S:Nat->St) (fx:Nat->Fx) (v:Nat->V),S 0=σ/\(∀k o,l[k]?=some o->vh P ops n S fx v k o) /\
  sF ops (done.reverse++(List.range l.length).map fx)=true/\Q (S l.length)
theorem au.nil {P:Program}{ops:Array Oper}{n:Nat}{done:List Fx}{Q:St->Prop}{σ:St}(hc:sF ops done.reverse=true) (hq:Q σ):au P ops n [] done Q σ :=
 ⟨fun _=>σ,fun _=>{},fun _=>.any,rfl,by simp,by simpa using hc,hq⟩
theorem au.Az {P:Program}{ops:Array Oper}{o:Oper}{rest:List Oper}{n:Nat}{done:List Fx}{Q:St->Prop}{ts:Ts}{ls aH:List (List D)}{h h':ak}{fx:Fx}{v:V}
  (hc:kA P ops n o ts ls h fx v aH h') (hb:fx.nu=true->fx.wl=true/\fx.wh=false/\oL P o v ls aH)
  (hr:au P ops n rest (fx::done) Q ⟨n,ij o.dst v ts,(bif fx.wl then aH else ls),(bif fx.wh then h' else h)⟩) :
  au P ops n (o::rest) done Q ⟨n,ts,ls,h⟩:=by
 obtain⟨S,f,u,h0,h1,i,l⟩:=hr;refine⟨fun k=>match k with|0=>⟨n,ts,ls,h⟩|k+1=>S k,fun k=>match k with|0=>fx|k+1=>f k,fun k=>match k with|0=>v|k+1=>u k,rfl, ?_, ?_,l⟩
 ·intro k o' hk;cases k with
  | zero =>
   simp only [List.getElem?_cons_zero,Option.some.injEq] at hk;subst hk;unfold vh;dsimp only;rw [h0];refine⟨⟨hc.1,fun L H m hH j w jl a hl p K Q hk=>?_⟩,rfl,rfl,fun e=>by simp [e],fun e=>by simp [e],fun e=>?_⟩
   ·have:=hc.2 L H m hH j w jl a hl p K Q
    revert hk
    cases b:fx.wl<;>cases g:fx.wh<;>simp only [b,g,cond_true,cond_false] at this ⊢<;>exact this
   ·obtain⟨b,g,q⟩:=hb e;exact⟨b,g,by rw [b]; exact q⟩
  | succ k =>
   simp only [List.getElem?_cons_succ] at hk;exact h1 k o' hk
 ·rw [List.length_cons,List.range_succ_eq_map,List.map_cons,List.map_map]
  simpa [Function.comp_def] using i
theorem au.cons {P:Program}{ops:Array Oper}{o:Oper}{rest:List Oper}{n:Nat}{done:List Fx}{Q:St->Prop}{ts:Ts}{ls aH:List (List D)}{h h':ak}{fx:Fx}{v:V}
  (hc:kA P ops n o ts ls h fx v aH h') (hr:au P ops n rest (fx.plain::done) Q ⟨n,ij o.dst v ts,(bif fx.wl then aH else ls),(bif fx.wh then h' else h)⟩) :
  au P ops n (o::rest) done Q ⟨n,ts,ls,h⟩ :=
 au.Az (fx:=fx.plain) hc (fun e=>by cases e) hr
theorem au.born {P:Program}{ops:Array Oper}{o:Oper}{rest:List Oper}{n:Nat}{done:List Fx}{Q:St->Prop}{ts:Ts}{ls aH:List (List D)}{h:ak}{v:V}
  (hb:oL P o v ls aH) (b:jO o.dst n=true) (hr:au P ops n rest ({ wl:=true,nu:=true }::done) Q ⟨n,ij o.dst v ts,aH,h⟩):au P ops n (o::rest) done Q ⟨n,ts,ls,h⟩:=by
 refine au.Az (fx:={ wl:=true,nu:=true }) (h':=h) ⟨b,fun L H f hH j w jl a hl p K Q hk=>?_⟩ (fun _=>⟨rfl,rfl,hb⟩) hr;obtain⟨z,d,hg,q,hv,g,cs,e,k,hw⟩:=hb;rw [if_pos (sD hg)];have l:=f rfl;subst l;obtain⟨h1,m⟩:=hl.loc cs e z (k j w);refine hw a w K Q (hk _ j _ (jl++[w.heap.size]) ?_ ?_ (fun i x hx=>by rw [List.getElem?_append_left (List.getElem?_eq_some_iff.1 hx).1]; exact hx) m)
 ·rw [hv]; exact⟨w.heap.size,by rw [hl.2.each.length]; simp,rfl⟩
 ·rw [g]; exact h1
def lU (ops:Array Oper) (fx:Nat->Fx) (i k:Nat):Prop:=i<k/\(fx k).nu=true/\∃oi ok,ops[i]?=some oi/\ops[k]?=some ok/\oi.apart ops ok=true/\∀m,ord ops k m->ord ops i m
def vo (ops:Array Oper) (fx:Nat->Fx) (i k:Nat):Prop:=ord ops i k\/lU ops fx i k
section
variable {P:Program}{ops:Array Oper}{n:Nat}{S:Nat->St}{fx:Nat->Fx}{v:Nat->V}
theorem Gk (hc:sF ops ((List.range ops.toList.length).map fx)=true) :
  (∀k o,ops[k]?=some o->∀e,e∈o.after.toList->Region.binds .any e=true->e.on<k) /\
  (∀i k oi ok,i<k->ops[i]?=some oi->ops[k]?=some ok->vo ops fx i k\/(oi.apart ops ok=true/\(fx i).fN (fx k)=false)):=by
 have b:∀k o,ops[k]?=some o->(ops.toList.zip ((List.range ops.toList.length).map fx))[k]?=some (o,fx k):=by
  intro k o hk;have aT:k<ops.size:=by
   rcases Nat.lt_or_ge k ops.size with h|h
   ·exact h
   ·rw [Array.getElem?_eq_none h] at hk; simp at hk
  rw [List.getElem?_zip_eq_some];refine⟨by simpa using hk, ?_⟩;simp [aT]
 have hlen:∀k o,ops[k]?=some o->k<(ops.toList.zip ((List.range ops.toList.length).map fx)).length:=by
  intro k o hk;have:=b k o hk;exact(List.getElem?_eq_some_iff.1 this).1
 unfold sF Ay at hc;rw [List.all_eq_true] at hc;constructor
 ·intro k o hk e he hb;have:=hc k (List.mem_range.2 (hlen k o hk));rw [b k o hk] at this;simp only [Bool.and_eq_true,List.all_eq_true] at this;have h1:=this.1 e he;rw [hb] at h1
  simpa [Nat.blt_eq] using h1
 ·intro i k oi ok g hi hk;have:=hc k (List.mem_range.2 (hlen k ok hk));rw [b k ok hk] at this;simp only [Bool.and_eq_true,List.all_eq_true] at this;have h1:=this.2 i (List.mem_range.2 g);rw [b i oi hi] at h1;simp only [Bool.or_eq_true,Bool.and_eq_true] at h1;rcases h1 with (h1|h1)|h1
  ·exact .inl (.inl h1)
  ·exact .inr ⟨h1.1,by simpa using h1.2⟩
  ·refine .inl (.inr ⟨g,h1.1.1,oi,ok,hi,hk,h1.1.2,fun m hm=>?_⟩);have f:=h1.2;unfold Ax at f;rw [List.all_eq_true] at f;unfold ord at hm ⊢;rw [List.getD_eq_getElem?_getD] at hm ⊢;cases c:(gE ops.toList [])[m]? with
   | none=>rw [c] at hm; simp at hm
   | some x =>
    rw [c,Option.getD_some] at hm;rw [Option.getD_some];have:=f x (List.mem_of_getElem? c);rw [hm] at this
    simpa using this
theorem Gl (aT:∀k o,ops[k]?=some o->∀e,e∈o.after.toList->Region.binds .any e=true->e.on<k){i k:Nat}(h:ord ops i k) :
  ∃o e,ops[k]?=some o/\e∈o.after.toList/\Region.binds .any e=true/\(i=e.on\/ord ops i e.on):=by
 obtain⟨h1,f,b⟩:=Av ops.toList [];simp only [List.length_nil,Nat.zero_add] at h1 b;unfold ord at h;cases hk:ops[k]? with
 | none =>
  have:ops.toList.length<=k:=by
   rcases Nat.lt_or_ge k ops.size with c|c
   ·rw [Array.getElem?_eq_getElem c] at hk; simp at hk
   ·simpa using c
  rw [List.getD_eq_getElem?_getD,List.getElem?_eq_none (by omega)] at h;simp at h
 | some o =>
  have hm:=b k o (by simpa using hk);rw [List.getD_eq_getElem?_getD,hm,Option.getD_some] at h;unfold nA at h;rcases Aw _ i _ _ h with c|⟨e,he,hb,c⟩
  ·simp at c
  ·refine⟨o,e,rfl,he,hb,c.imp id fun c=>?_⟩;have hl:=aT k o hk e he hb;unfold ord;rw [List.getD_eq_getElem?_getD,List.getElem?_take_of_lt hl,<- List.getD_eq_getElem?_getD] at c;exact c
end
end Go.Ab
/-
 A region that draws its order: every order comes to the same end.
-/
namespace Go.Ab
open Go Go.RowKit
variable {az:bC}
variable {ii:eF}
def a8 (aV:Array Bool) (i:Nat):Prop:=aV.getD i false=true
structure Inv [bC] [eF] (ops:Array Oper) (S:Nat->St) (fx:Nat->Fx) (v:Nat->V) (n:Nat) (j0:J) (w0:World) (O0:Nat->Prop) (bW aV:Array Bool) (lim:List (Nat×Nat)) (tv:Nat->Value) (j:J) (w:World) (jl:List Nat) (a:Act):Prop where
 kB:bW.size=ops.size
 qL:aV.size=ops.size
 gF:∀i,a8 bW i↔(a8 aV i\/∃b,(i,b)∈lim)
 lV:∀k,a8 bW k->∀p,ord ops p k->a8 bW p
 closed:∀k,a8 aV k->∀p,vo ops fx p k->a8 aV p
 defers:a.defers=eF.ds
 oM:a.tmps.size=n
 agree:∀t,(∀m b o,(m,b)∈lim->ops[m]?=some o->o.dst≠some t)->a.tmps.getD t undef=tv t
 tm:∀t,∃k,k<=ops.size/\(∀p o,ops[p]?=some o->o.dst=some t->(a8 aV p↔p<k))/\bq j w jl (get (S k).ts t) (tv t)
 st:∃kl kh,kl<=ops.size/\kh<=ops.size/\(∀p,p<ops.size->(fx p).wl=true->(a8 aV p↔p<kl))/\(∀p,p<ops.size->(fx p).wh=true->(a8 aV p↔p<kh)) /\
  HL j w jl (S kl).ls (S kh).h/\bQ j0 w0 O0 j w (bg j (S kh).h jl)/\∀m b,(m,b)∈lim->w0.heap.size<=b/\b<w.heap.size/\¬bg j (S kh).h jl b
 nd:lim.Pairwise fun x y=>x.1≠y.1/\x.2≠y.2
 nB:∀m b,(m,b)∈lim->¬a8 aV m/\(fx m).nu=true/\(∀p,ord ops p m->a8 aV p)/\∃o z d cs e,ops[m]?=some o/\o.dst=some d/\v m=.cW (S m).ls.length 0/\(S (m+1)).ls=(S m).ls++[z] /\
  (∀j w,bf (aD j w) z cs)/\w.heap[b]?=some (.cells cs.toArray e (0,0))/\j.F b=0/\a.tmps.getD d undef=.pointer (some ⟨b,0,none⟩)
section
variable {P:Program}{ops:Array Oper}{n:Nat}{S:Nat->St}{fx:Nat->Fx}{v:Nat->V}
theorem AA {α:Type}(f:Nat->α){N:Nat}(W:Nat->Prop) (g:∀k,k<N->¬W k->f (k+1)=f k) :
  ∀(a b:Nat),a<=b->b<=N->(∀p,a<=p->p<b->¬W p)->f b=f a:=by
 intro a b j;induction b with
 | zero =>
  intro _ _;have:a=0:=by omega
  rw [this]
 | succ b i =>
  intro hb hw;by_cases e:a=b+1
  ·rw [e]
  ·rw [g b (by omega) (hw b (by omega) (by omega))];exact i (by omega) (by omega) fun p h1 l=>hw p h1 (by omega)
theorem oN {α:Type}(f:Nat->α){N:Nat}(W X:Nat->Prop) (g:∀k,k<N->¬W k->f (k+1)=f k){k i:Nat}(hk:k<=N) (hi:i<=N)
  (h1:∀p,p<N->W p->(X p↔p<k)) (j:∀p,p<N->W p->(X p↔p<i)):f k=f i:=by
 rcases Nat.le_total k i with h|h
 ·exact(AA f W g k i h hi fun p a b hw=>by have:=(j p (by omega) hw).2 b; have:=(h1 p (by omega) hw).1 this; omega).symm
 ·exact AA f W g i k h hk fun p a b hw=>by have:=(h1 p (by omega) hw).2 b; have:=(j p (by omega) hw).1 this; omega
theorem AB {aV:Array Bool}{i:Nat}(h:i∈Region.ready .any ops aV) (f:aV.size=ops.size) :
  ∃o,ops[i]?=some o/\i<ops.size/\¬a8 aV i/\∀e,e∈o.after.toList->Region.binds .any e=true->a8 aV e.on:=by
 simp only [Region.ready,List.mem_filter,List.mem_range,Bool.and_eq_true,Bool.not_eq_true'] at h;obtain⟨aT,h1,b⟩:=h;refine⟨ops[i],by simp [aT],aT, ?_, ?_⟩
 ·unfold a8;rw [Array.getD_eq_getD_getElem?,Array.getElem?_eq_getElem (by omega)] at h1 ⊢;simp at h1 ⊢; exact h1
 ·intro e he hb;rw [Array.getElem?_eq_getElem aT] at b;simp only [Option.map_some,Option.getD_some,Array.all_eq_true'] at b;have:=b e (by simpa using he);rw [hb] at this
  simpa [a8] using this
theorem a8.set {aV:Array Bool}{i p:Nat}(hi:i<aV.size):a8 (aV.setIfInBounds i true) p↔(p=i\/a8 aV p):=by
 unfold a8;rw [Array.getD_eq_getD_getElem?,Array.getElem?_setIfInBounds];by_cases e:i=p
 ·subst e; simp [hi]
 ·rw [if_neg e];constructor
  ·intro h; right; rw [Array.getD_eq_getD_getElem?]; exact h
  ·rintro (h|h)
   ·omega
   ·rw [Array.getD_eq_getD_getElem?] at h; exact h
variable (aT:∀k o,ops[k]?=some o->∀e,e∈o.after.toList->Region.binds .any e=true->e.on<k)
 (cS:∀i k oi ok,i<k->ops[i]?=some oi->ops[k]?=some ok->vo ops fx i k\/(oi.apart ops ok=true/\(fx i).fN (fx k)=false))
 (hS:∀k o,ops[k]?=some o->vh P ops n S fx v k o)
 {j0:J}{w0:World}{O0:Nat->Prop}
include aT in
theorem vi {aV:Array Bool}{i:Nat}{o:Oper}(l:ops[i]?=some o) (m:∀k,a8 aV k->∀p,ord ops p k->a8 aV p)
  (f:∀e,e∈o.after.toList->Region.binds .any e=true->a8 aV e.on){p:Nat}(h:ord ops p i):a8 aV p:=by
 obtain⟨o',e,h1,g,j,b⟩:=Gl aT h;rw [l] at h1; simp only [Option.some.injEq] at h1; subst h1;rcases b with b|b
 ·rw [b]; exact f e g j
 ·exact m e.on (f e g j) p b
include cS in
theorem qM {aV:Array Bool}{i:Nat}{o:Oper}(f:ops[i]?=some o) (g:¬a8 aV i) (l:∀k,a8 aV k->∀p,vo ops fx p k->a8 aV p)
  (m:∀p,vo ops fx p i->a8 aV p){p:Nat}{op:Oper}(j:ops[p]?=some op)
  (q:p<i->op.apart ops o=true->(fx p).fN (fx i)=false->False) (r:i<p->o.apart ops op=true->(fx i).fN (fx p)=false->False):a8 aV p↔p<i:=by
 rcases Nat.lt_trichotomy p i with h|h|h
 ·refine⟨fun _=>h,fun _=>?_⟩;rcases cS p i op o h j f with h1|⟨h1,b⟩
  ·exact m p h1
  ·exact(q h h1 b).elim
 ·subst h; exact⟨fun h=>(g h).elim,fun h=>by omega⟩
 ·refine⟨fun hr=>?_,fun h'=>by omega⟩;rcases cS i p o op h f j with h1|⟨h1,b⟩
  ·exact(g (l p hr i h1)).elim
  ·exact(r h h1 b).elim
theorem ja {i:Nat}(h:i<ops.size):ops[i]?=some ops[i]:=Array.getElem?_eq_getElem h
theorem nC {i:Nat}{o:Oper}(h:ops[i]?=some o):i<ops.size:=by
 rcases Nat.lt_or_ge i ops.size with h'|h'
 ·exact h'
 ·rw [Array.getElem?_eq_none h'] at h; simp at h
include hS in
theorem AD (t:Nat):∀k,k<ops.size->¬(∃o,ops[k]?=some o/\o.dst=some t)->get (S (k+1)).ts t=get (S k).ts t:=by
 intro k hk hn;rw [(hS k _ (ja hk)).2.2.1];cases b:(ops[k]).dst with
 | none=>rfl
 | some d =>
  simp only [ij];exact gf _ _ fun e=>hn ⟨_,ja hk,by rw [b,e]⟩
include cS hS in
theorem sG {aV:Array Bool}{i kl:Nat}{o:Oper}(b:ops[i]?=some o) (f:¬a8 aV i) (g:∀k,a8 aV k->∀p,vo ops fx p k->a8 aV p) (j:∀p,vo ops fx p i->a8 aV p)
  (l:kl<=ops.size) (m:∀p,p<ops.size->(fx p).wl=true->(a8 aV p↔p<kl)) (hr:((fx i).rl||(fx i).wl)=true):(S kl).ls=(S i).ls :=
 oN (fun k=>(S k).ls) (fun p=>(fx p).wl=true) (a8 aV) (fun k hk hn=>(hS k _ (ja hk)).2.2.2.1 (by simpa using hn)) l (Nat.le_of_lt (nC b)) m fun p q hw =>
  qM cS b f g j (ja q) (fun _ _ c=>by simp [Fx.fN] at c; simp only [Bool.or_eq_true] at hr; rcases hr with r|r<;>simp [r,hw] at c)
   (fun _ _ c=>by simp [Fx.fN] at c; simp only [Bool.or_eq_true] at hr; rcases hr with r|r<;>simp [r,hw] at c)
include cS hS in
theorem vj {aV:Array Bool}{i kh:Nat}{o:Oper}(b:ops[i]?=some o) (f:¬a8 aV i) (g:∀k,a8 aV k->∀p,vo ops fx p k->a8 aV p) (j:∀p,vo ops fx p i->a8 aV p)
  (l:kh<=ops.size) (m:∀p,p<ops.size->(fx p).wh=true->(a8 aV p↔p<kh)) (hr:((fx i).rh||(fx i).wh)=true):(S kh).h=(S i).h :=
 oN (fun k=>(S k).h) (fun p=>(fx p).wh=true) (a8 aV) (fun k hk hn=>(hS k _ (ja hk)).2.2.2.2.1 (by simpa using hn)) l (Nat.le_of_lt (nC b)) m fun p q hw =>
  qM cS b f g j (ja q) (fun _ _ c=>by simp [Fx.fN] at c; simp only [Bool.or_eq_true] at hr; rcases hr with r|r<;>simp [r,hw] at c)
   (fun _ _ c=>by simp [Fx.fN] at c; simp only [Bool.or_eq_true] at hr; rcases hr with r|r<;>simp [r,hw] at c)
include cS in
theorem vk {aV:Array Bool}{i k:Nat}{o:Oper}(l:i<aV.size) (m:ops[i]?=some o) (q:¬a8 aV i) (r:∀k,a8 aV k->∀p,vo ops fx p k->a8 aV p) (s:∀p,vo ops fx p i->a8 aV p)
  (W:Fx->Bool) (f:∀x y:Fx,W x=true->W y=true->x.fN y=true) (hw:∀p,p<ops.size->W (fx p)=true->(a8 aV p↔p<k)) :
  ∀p,p<ops.size->W (fx p)=true->(a8 (aV.setIfInBounds i true) p↔p<(bif W (fx i) then i+1 else k)):=by
 intro p g b;rw [a8.set l];by_cases e:p=i
 ·subst e; simp [b]
 ·simp only [e,false_or];cases j:W (fx i) with
  | false=>simp only [cond_false]; exact hw p g b
  | true =>
   simp only [cond_true];have:=qM cS m q r s (ja g) (fun _ _ c=>by rw [f _ _ b j] at c; cases c) (fun _ _ c=>by rw [f _ _ j b] at c; cases c);rw [this]; omega
include cS hS in
theorem AE {aV:Array Bool}{i:Nat}{o:Oper}{j j':J}{w w':World}{jl l:List Nat}{tv m:Nat->Value}(q:i<aV.size) (g:ops[i]?=some o) (r:¬a8 aV i)
  (s:∀k,a8 aV k->∀p,vo ops fx p k->a8 aV p) (u:∀p,vo ops fx p i->a8 aV p) (hle:Le j w j' w') (hx:Ext jl l){cv:Value}(hv:bq j' w' l (v i) cv)
  (h1:∀t,o.dst=some t->m t=cv) (x:∀t,o.dst≠some t->m t=tv t)
  (y:∀t,∃k,k<=ops.size/\(∀p o,ops[p]?=some o->o.dst=some t->(a8 aV p↔p<k))/\bq j w jl (get (S k).ts t) (tv t)) :
  ∀t,∃k,k<=ops.size/\(∀p o,ops[p]?=some o->o.dst=some t->(a8 (aV.setIfInBounds i true) p↔p<k))/\bq j' w' l (get (S k).ts t) (m t):=by
 intro t;have C:=nC g;by_cases ht:o.dst=some t
 ·refine⟨i+1,by omega,fun p op b f=>?_, ?_⟩
  ·rw [a8.set q];by_cases e:p=i
   ·subst e; simp
   ·have:=qM cS g r s u b (fun _ c _=>(Oper.apart_spec c).2.1 t f ht) (fun _ c _=>(Oper.apart_spec c).2.1 t ht f);rw [this]; omega
  ·rw [(hS i o g).2.2.1,ht,h1 t ht];simp only [ij,fm];exact hv
 ·obtain⟨k,z,hw,B⟩:=y t;refine⟨k,z,fun p op b f=>?_, ?_⟩
  ·rw [a8.set q];have:p≠i:=fun e=>by subst e; rw [g] at b; simp only [Option.some.injEq] at b; subst b; exact ht f
   simp only [this,false_or]; exact hw p op b f
  ·rw [x t ht]; exact B.mono hle hx
theorem AF (x y:Fx) (hx:x.wl=true) (b:y.wl=true):x.fN y=true:=by simp [Fx.fN,hx,b]
theorem Gm (x y:Fx) (hx:x.wh=true) (b:y.wh=true):x.fN y=true:=by simp [Fx.fN,hx,b]
theorem sI {aV:Array Bool}{i:Nat}{R:Nat->Nat->Prop}(f:i<aV.size) (g:∀k,a8 aV k->∀p,R p k->a8 aV p) (j:∀p,R p i->a8 aV p) :
  ∀k,a8 (aV.setIfInBounds i true) k->∀p,R p k->a8 (aV.setIfInBounds i true) p:=by
 intro k hr p b;rw [a8.set f] at hr ⊢;rcases hr with hr|hr
 ·subst hr; exact .inr (j p b)
 ·exact .inr (g k hr p b)
theorem sJ (a:Act) (dst:Option Tmp) (cv:Value) (t:Nat) (h:dst≠some t):(a.put dst cv).tmps.getD t undef=a.tmps.getD t undef:=by
 cases dst with
 | none=>rfl
 | some d =>
  have:d≠t:=fun e=>h (by rw [e]);simp [Act.put,Array.getD_eq_getD_getElem?,Array.getElem?_setIfInBounds,this]
theorem AG (a:Act) (t:Nat) (cv:Value) (h:t<a.tmps.size):(a.put (some t) cv).tmps.getD t undef=cv:=by
 simp [Act.put,Array.getD_eq_getD_getElem?,h]
theorem Gn {aV:Array Bool}{i m:Nat}{o b:Oper}(cS:∀i k oi ok,i<k->ops[i]?=some oi->ops[k]?=some ok->vo ops fx i k\/(oi.apart ops ok=true/\(fx i).fN (fx k)=false))
  (g:ops[i]?=some o) (hm:ops[m]?=some b) (t:m≠i) (q:¬a8 aV m) (r:∀p,vo ops fx p i->a8 aV p) (s:¬ord ops i m){d:Nat}(f:b.dst=some d):d∉o.looksAt ops/\o.dst≠some d:=by
 rcases Nat.lt_or_ge m i with h|h
 ·rcases cS m i b o h hm g with h1|⟨h1,_⟩
  ·exact(q (r m h1)).elim
  ·exact⟨(Oper.apart_spec h1).1 d f,fun e=>(Oper.apart_spec h1).2.1 d f e⟩
 ·have h:i<m:=by omega
  have:o.apart ops b=true:=by
   rcases cS i m o b h g hm with (h1|⟨_,_,oi,ok,j,l,h1,_⟩)|⟨h1,_⟩
   ·exact(s h1).elim
   ·rw [g] at j; rw [hm] at l; simp only [Option.some.injEq] at j l; subst j l; exact h1
   ·exact h1
  exact⟨(Oper.apart_spec this).2.2 d f,fun e=>(Oper.apart_spec this).2.1 d e f⟩
include aT cS hS in
theorem Gp {bW aV:Array Bool}{lim:List (Nat×Nat)}{tv:Nat->Value}{j:J}{w:World}{jl:List Nat}{a:Act}(hinv:Inv ops S fx v n j0 w0 O0 bW aV lim tv j w jl a){i:Nat}{o:Oper}
  (f:ops[i]?=some o) (x:¬a8 bW i) (X:∀e,e∈o.after.toList->Region.binds .any e=true->a8 bW e.on) (g:∀p,vo ops fx p i->a8 aV p)
  {K:Act->World->Prop}{Q:Exit->Act->World->Prop}(hk:∀Y j' w' y a',Inv ops S fx v n j0 w0 O0 (bW.setIfInBounds i true) (aV.setIfInBounds i true) lim Y j' w' y a'->K a' w'):wpOp P ops Q i K a w:=by
 have B:=nC f;have q:i<aV.size:=by rw [hinv.qL]; exact B
 have H:i<bW.size:=by rw [hinv.kB]; exact B
 have r:¬a8 aV i:=fun c=>x ((hinv.gF i).2 (.inl c));have I:∀b,(i,b)∉lim:=fun b c=>x ((hinv.gF i).2 (.inr ⟨b,c⟩));obtain⟨L,aj,al,am,an,ao⟩:=hS i o f;obtain⟨kl,kh,Z,aa,M,N,ab,ad,O⟩:=hinv.st;have ae:=sG cS hS f r hinv.closed g Z M;have hH:=vj cS hS f r hinv.closed g aa N;have R:∀m b l d,(m,b)∈lim->ops[m]?=some l->l.dst=some d->d∉o.looksAt ops/\o.dst≠some d:=fun m b l d hm C E =>
  Gn cS f C (fun e=>I b (e▸hm)) (hinv.nB m b hm).1 g (fun c=>x (hinv.lV m ((hinv.gF m).2 (.inr ⟨b,hm⟩)) i c)) E
 have af:∀t,t∈o.looksAt ops->bq j w jl (get (S i).ts t) (a.tmps.getD t undef):=by
  intro t ht;rw [hinv.agree t fun m b l hm C E=>(R m b l t hm C E).1 ht];obtain⟨k,hk,hw,hv⟩:=hinv.tm t;have:get (S k).ts t=get (S i).ts t :=
   oN (fun k=>get (S k).ts t) (fun p=>∃o,ops[p]?=some o/\o.dst=some t) (a8 aV) (AD hS t) hk (Nat.le_of_lt B) (fun p _ ⟨op,h1,s⟩=>hw p op h1 s) fun p _ ⟨op,h1,s⟩ =>
    qM cS f r hinv.closed g h1 (fun _ c _=>(Oper.apart_spec c).1 t s ht) (fun _ c _=>(Oper.apart_spec c).2.2 t s ht)
  rw [<- this]; exact hv
 have u:=L.2 (S kl).ls (S kh).h ae hH j w jl a ab af K Q fun cv j' w' y hv hl hx he =>
  hk (fun t=>if o.dst=some t then cv else tv t) j' w' y _ ?_
 ·unfold wpOp;simp only [f]
  split
  ·rename_i hw; rw [if_pos hw] at u; exact .inl u
  ·rename_i hw; rw [if_neg hw] at u; exact u
 ·have F:(S (bif (fx i).wh then i+1 else kh)).h=(bif (fx i).wh then(S (i+1)).h else(S kh).h):=by cases (fx i).wh<;>rfl
  refine⟨by simp [hinv.kB],by simp [hinv.qL],fun k=>?_,sI H hinv.lV fun p G=>vi aT f hinv.lV X G,sI q hinv.closed g,by rw [put_defers]; exact hinv.defers,
   by rw [vg]; exact hinv.oM,fun t ht=>?_,AE cS hS q f r hinv.closed g he.toLe hx hv (fun t e=>by simp [e]) (fun t e=>by simp [e]) hinv.tm, ?_,hinv.nd,fun m b hm=>?_⟩
  ·rw [a8.set H,a8.set q,hinv.gF k];constructor
   ·rintro (h|h|h)
    ·exact .inl (.inl h)
    ·exact .inl (.inr h)
    ·exact .inr h
   ·rintro ((h|h)|h)
    ·exact .inl h
    ·exact .inr (.inl h)
    ·exact .inr (.inr h)
  ·by_cases e:o.dst=some t
   ·rw [if_pos e,e];refine AG a t cv ?_;have U:=L.1;rw [e] at U;rw [hinv.oM]; simpa [jO,Nat.blt_eq] using U
   ·rw [if_neg e,sJ a o.dst cv t e]; exact hinv.agree t ht
  ·refine⟨(bif (fx i).wl then i+1 else kl),(bif (fx i).wh then i+1 else kh),by cases (fx i).wl<;>simp<;>omega,by cases (fx i).wh<;>simp<;>omega,
    vk cS q f r hinv.closed g (·.wl) AF M,vk cS q f r hinv.closed g (·.wh) Gm N, ?_, ?_,fun m b hm=>?_⟩
   ·have ag:(S (bif (fx i).wl then i+1 else kl)).ls=(bif (fx i).wl then(S (i+1)).ls else(S kl).ls):=by cases (fx i).wl<;>rfl
    rw [ag,F]; exact hl
   ·rw [F]; exact ad.trans he
   ·obtain⟨g1,g2,g3⟩:=O m b hm;rw [F];exact⟨g1,Nat.lt_of_lt_of_le g2 he.size,fun c=>g3 (he.own b g2 c)⟩
  ·obtain⟨g1,g2,g0,l,z,d,cs,e,g3,g4,g5,g6,g7,g8,g9,g10⟩:=hinv.nB m b hm;obtain⟨ap,ah,ai⟩:=O m b hm;have W:=he.frame b ah ai;refine⟨fun c=>?_,g2,fun p G=>(a8.set q).2 (.inr (g0 p G)),l,z,d,cs,e,g3,g4,g5,g6,g7,by rw [W.1]; exact g8,by rw [W.2]; exact g9, ?_⟩
   ·rcases (a8.set q).1 c with c|c
    ·subst c; exact I b hm
    ·exact g1 c
   ·rw [sJ a o.dst cv d (R m b l d hm g3 g4).2]; exact g10
include aT cS hS in
theorem Gq {bW aV:Array Bool}{lim:List (Nat×Nat)}{tv:Nat->Value}{j:J}{w:World}{jl:List Nat}{a:Act}(hinv:Inv ops S fx v n j0 w0 O0 bW aV lim tv j w jl a){i:Nat}{o:Oper}
  (f:ops[i]?=some o) (y:¬a8 bW i) (O:∀e,e∈o.after.toList->Region.binds .any e=true->a8 bW e.on) (E:∀p,ord ops p i->a8 aV p) (F:(fx i).nu=true)
  {K:Act->World->Prop}{Q:Exit->Act->World->Prop}(hk:∀w' a' b,Inv ops S fx v n j0 w0 O0 (bW.setIfInBounds i true) aV ((i,b)::lim) tv j w' jl a'->K a' w'):wpOp P ops Q i K a w:=by
 have R:=nC f;have G:i<bW.size:=by rw [hinv.kB]; exact R
 have U:¬a8 aV i:=fun c=>y ((hinv.gF i).2 (.inl c));have H:∀b,(i,b)∉lim:=fun b c=>y ((hinv.gF i).2 (.inr ⟨b,c⟩));obtain⟨W,av,aw,ax,ay,X⟩:=hS i o f;obtain⟨aA,aC,z,d,hg,l,hv,Y,cs,e,Z,aa⟩:=X F;obtain⟨kl,kh,ab,ad,ae,af,s,I,B⟩:=hinv.st;have ag:d<a.tmps.size:=by
  have L:=W.1;rw [l] at L;rw [hinv.oM]; simpa [jO,Nat.blt_eq] using L
 have ah:∀m b g t,(m,b)∈lim->ops[m]?=some g->g.dst=some t->t≠d:=fun m b g t hm u ht e=>by
  subst e;have aD:m≠i:=fun e=>H b (e▸hm);have ai:¬ord ops i m:=fun c=>y (hinv.lV m ((hinv.gF m).2 (.inr ⟨b,hm⟩)) i c);rcases Nat.lt_or_ge m i with h|h
  ·rcases cS m i g o h u f with (h1|⟨_,_,oi,ok,q,r,h1,_⟩)|⟨h1,_⟩
   ·exact(hinv.nB m b hm).1 (E m h1)
   ·rw [u] at q; rw [f] at r; simp only [Option.some.injEq] at q r; subst q r; exact(Oper.apart_spec h1).2.1 t ht l
   ·exact(Oper.apart_spec h1).2.1 t ht l
  ·rcases cS i m o g (by omega) f u with (h1|⟨_,_,oi,ok,q,r,h1,_⟩)|⟨h1,_⟩
   ·exact ai h1
   ·rw [f] at q; rw [u] at r; simp only [Option.some.injEq] at q r; subst q r; exact(Oper.apart_spec h1).2.1 t l ht
   ·exact(Oper.apart_spec h1).2.1 t l ht
 have M:=s.data (az:=az) (.cells cs.toArray e) 0;rw [J.qK (s.1.fresh _ (Nat.le_refl _))] at M;obtain⟨aj,N⟩:=M;unfold wpOp;simp only [f];rw [if_pos (sD hg)];refine .inl (aa a w K Q (hk _ _ w.heap.size ?_));refine⟨by simp [hinv.kB],hinv.qL,fun k=>?_,sI G hinv.lV fun p al=>vi aT f hinv.lV O al,hinv.closed,by rw [put_defers]; exact hinv.defers,by rw [vg]; exact hinv.oM,
  fun t ht=>?_,fun t=>?_,⟨kl,kh,ab,ad,ae,af,aj,I.trans N,fun m b hm=>?_⟩, ?_,fun m b hm=>?_⟩
 ·rw [a8.set G,hinv.gF k];constructor
  ·rintro (h|h|⟨b,h⟩)
   ·exact .inr ⟨w.heap.size,by rw [h]; simp⟩
   ·exact .inl h
   ·exact .inr ⟨b,by simp [h]⟩
  ·rintro (h|⟨b,h⟩)
   ·exact .inr (.inl h)
   ·rcases List.mem_cons.1 h with h|h
    ·exact .inl (by simpa using congrArg Prod.fst h)
    ·exact .inr (.inr ⟨b,h⟩)
 ·have h1:o.dst≠some t:=ht i w.heap.size o (by simp) f;rw [sJ a o.dst _ t h1];exact hinv.agree t fun m b g hm=>ht m b g (by simp [hm])
 ·obtain⟨k,h1,am,an⟩:=hinv.tm t;exact⟨k,h1,am,an.mono N.toLe (Ext.refl _)⟩
 ·rcases List.mem_cons.1 hm with h|h
  ·simp only [Prod.mk.injEq] at h;obtain⟨rfl,rfl⟩:=h;exact⟨I.size,by simp,fun c=>Nat.lt_irrefl _ (bg.lt s c)⟩
  ·obtain⟨g1,g2,g3⟩:=B m b h;exact⟨g1,by simp; omega,g3⟩
 ·refine List.pairwise_cons.2 ⟨fun x hx=>⟨fun c=>H x.2 (by have c:i=x.1:=c; rw [c]; exact hx),fun c=>?_⟩,hinv.nd⟩;have:=(B x.1 x.2 hx).2.1;simp only at c;omega
 ·rcases List.mem_cons.1 hm with h|h
  ·simp only [Prod.mk.injEq] at h;obtain⟨rfl,rfl⟩:=h;refine⟨U,F,E,o,z,d,cs,e,f,l,hv,Y,Z,heap_alloc_new w _,s.1.fresh _ (Nat.le_refl _), ?_⟩;rw [l]; exact AG a d _ ag
  ·obtain⟨g1,g2,g0,g,ao,C,ap,ar,g3,g4,g5,g6,g7,g8,g9,g10⟩:=hinv.nB m b h;obtain⟨aE,au,aF⟩:=B m b h;refine⟨g1,g2,g0,g,ao,C,ap,ar,g3,g4,g5,g6,g7,by rw [sC au]; exact g8,g9, ?_⟩;rw [sJ a o.dst _ C (by rw [l]; intro c; simp only [Option.some.injEq] at c; exact ah m b g C h g3 g4 c.symm)];exact g10
theorem AH:∀{l:List (Nat×Nat)},l.Pairwise (fun x y=>x.1≠y.1/\x.2≠y.2)->∀{x y},x∈l->y∈l->x.1≠y.1->x.2≠y.2
 | [],_,_,_,hx,_,_=>by simp at hx
 | a::l,h,x,y,hx,i,hn=>by
  obtain⟨h1,j⟩:=List.pairwise_cons.1 h;rcases List.mem_cons.1 hx with ex|b<;>rcases List.mem_cons.1 i with f|g
  ·subst ex f; exact(hn rfl).elim
  ·subst ex; exact(h1 y g).2
  ·subst f; exact(h1 x b).2.symm
  ·exact AH j b g hn
include cS hS in
theorem Gr {bW aV:Array Bool}{lim:List (Nat×Nat)}{tv:Nat->Value}{j:J}{w:World}{jl:List Nat}{a:Act}(hinv:Inv ops S fx v n j0 w0 O0 bW aV lim tv j w jl a){m b:Nat}
  (hm:(m,b)∈lim) (r:∀p,vo ops fx p m->a8 aV p):∃N,Inv ops S fx v n j0 w0 O0 bW (aV.setIfInBounds m true) (lim.filter fun x=>x.1 != m) N j w (jl++[b]) a:=by
 obtain⟨u,O,_,o,z,d,cs,e,l,P,hv,Q,R,hb,U,W⟩:=hinv.nB m b hm;have X:=nC l;have g:m<aV.size:=by rw [hinv.qL]; exact X
 obtain⟨kl,kh,Y,Z,G,aa,q,B,H⟩:=hinv.st;obtain⟨af,ag,I⟩:=H m b hm;obtain⟨K,ab,_⟩:=(hS m o l).2.2.2.2.2 O;have L:=sG cS hS l u hinv.closed r Y G (by rw [K]; simp);have hx:Ext jl (jl++[b]):=fun i x hx=>by rw [List.getElem?_append_left (List.getElem?_eq_some_iff.1 hx).1]; exact hx
 have C:∀m' b',(m',b')∈lim.filter (fun x=>x.1 != m)->(m',b')∈lim/\m'≠m:=fun m' b' h=>by
  rw [List.mem_filter] at h; exact⟨h.1,by simpa using h.2⟩
 refine⟨fun t=>if o.dst=some t then .pointer (some ⟨b,0,none⟩) else tv t,hinv.kB,by simp [hinv.qL],fun k=>?_,hinv.lV,sI g hinv.closed r,hinv.defers,hinv.oM,fun t ht=>?_,
  AE cS hS g l u hinv.closed r (Le.refl j w) hx (cv:=.pointer (some ⟨b,0,none⟩)) ?_ (fun t e=>by simp [e]) (fun t e=>by simp [e]) hinv.tm,
  ⟨m+1,kh,by omega,Z, ?_,fun p E hw=>?_, ?_,{ B with own:=fun b' s f=>?_ },fun m' b' h=>?_⟩,hinv.nd.filter _,fun m' b' h=>?_⟩
 ·rw [a8.set g,hinv.gF k];constructor
  ·rintro (h|⟨b',h⟩)
   ·exact .inl (.inr h)
   ·by_cases e:k=m
    ·exact .inl (.inl e)
    ·exact .inr ⟨b',by rw [List.mem_filter]; exact⟨h,by simpa using e⟩⟩
  ·rintro ((h|h)|⟨b',h⟩)
   ·exact .inr ⟨b,h▸hm⟩
   ·exact .inl h
   ·exact .inr ⟨b',(C k b' h).1⟩
 ·by_cases e:o.dst=some t
  ·rw [if_pos e];rw [P] at e;simp only [Option.some.injEq] at e;subst e;exact W
  ·rw [if_neg e];refine hinv.agree t fun m' b' o' ad f=>?_;by_cases c:m'=m
   ·subst c; rw [l] at f; simp only [Option.some.injEq] at f; subst f; exact e
   ·exact ht m' b' o' (by rw [List.mem_filter]; exact⟨ad,by simpa using c⟩) f
 ·rw [hv];refine⟨b, ?_,rfl⟩;rw [<- L,q.2.each.length]; simp
 ·have:=vk cS g l u hinv.closed r (·.wl) AF G;rw [K] at this;exact this
 ·rw [a8.set g,<- aa p E hw];refine⟨fun c=>c.elim (fun e=>?_) id,.inr⟩;subst e; rw [ab] at hw; cases hw
 ·rw [Q,<- L];refine⟨q.1,q.2.each.append (.cons ⟨cs,e,hb,R j w,U⟩ .nil), ?_,fun b' s f=>?_⟩
  ·rw [List.nodup_append];refine⟨q.2.nodup,by simp,fun x ae y M=>?_⟩;simp at M; subst M;intro c; subst c; exact I (.inl ae)
  ·rcases List.mem_append.1 s with h|h
   ·exact q.2.apart b' h f
   ·simp at h; subst h;rcases f with h|h
    ·simp at h
    ·exact I (.inr h)
 ·rcases f with h|h
  ·rcases List.mem_append.1 h with h|h
   ·exact B.own b' s (.inl h)
   ·simp at h; omega
  ·exact B.own b' s (.inr h)
 ·obtain⟨h1,F⟩:=C m' b' h;obtain⟨g1,g2,g3⟩:=H m' b' h1;refine⟨g1,g2,fun c=>?_⟩;rcases c with c|c
  ·rcases List.mem_append.1 c with c|c
   ·exact g3 (.inl c)
   ·simp at c;exact AH hinv.nd h1 hm F c
  ·exact g3 (.inr c)
 ·obtain⟨h1,F⟩:=C m' b' h;obtain⟨g1,g2,g0,g3⟩:=hinv.nB m' b' h1;exact⟨fun c=>((a8.set g).1 c).elim F g1,g2,fun p E=>(a8.set g).2 (.inr (g0 p E)),g3⟩
include cS hS in
theorem settle {j:J}{w:World}{a:Act}{bW:Array Bool}{C:Prop}:∀(N:Nat){aV:Array Bool}{lim:List (Nat×Nat)}{tv:Nat->Value}{jl:List Nat},lim.length<=N->Inv ops S fx v n j0 w0 O0 bW aV lim tv j w jl a ->
  (∀aV lim tv jl,Inv ops S fx v n j0 w0 O0 bW aV lim tv j w jl a->(∀m b,(m,b)∈lim->∃p,lU ops fx p m/\¬a8 aV p)->C)->C:=by
 intro N;induction N with
 | zero =>
  intro aV lim tv jl g hinv hC;have:lim=[]:=List.eq_nil_of_length_eq_zero (by omega);subst this;exact hC _ _ _ _ hinv fun m b h=>by simp at h
 | succ N i =>
  intro aV lim tv jl g hinv hC;by_cases c:∃m b,(m,b)∈lim/\∀p,lU ops fx p m->a8 aV p
  ·obtain⟨m,b,hm,f⟩:=c;obtain⟨k,h⟩:=Gr cS hS hinv hm fun p h=>h.elim ((hinv.nB m b hm).2.2.1 p) (f p);refine i ?_ h hC;have:(lim.filter fun x=>x.1 != m).length<lim.length:=List.length_filter_lt_length_iff_exists.2 ⟨(m,b),hm,by simp⟩;omega
  ·refine hC _ _ _ _ hinv fun m b hm=>Classical.byContradiction fun c'=>c ⟨m,b,hm,fun p f=>Classical.byContradiction fun c2=>c' ⟨p,f,c2⟩⟩
theorem Gs {bW aV:Array Bool}{lim:List (Nat×Nat)}{tv:Nat->Value}{j:J}{w:World}{jl:List Nat}{a:Act}(hinv:Inv ops S fx v n j0 w0 O0 bW aV lim tv j w jl a)
  (f:∀m b,(m,b)∈lim->∃p,lU ops fx p m/\¬a8 aV p){i:Nat}(g:∀p,ord ops p i->a8 bW p):∀m b,(m,b)∈lim->ord ops m i->False:=by
 intro m;induction m using Nat.strongRecOn with
 | _ m k =>
  intro b hm l;obtain⟨p,o,hn⟩:=f m b hm;obtain⟨aT,_,_,_,_,_,_,q⟩:=o;have h1:=q i l;rcases (hinv.gF p).1 (g p h1) with h|⟨b',h⟩
  ·exact hn h
  ·exact k p aT b' h h1
theorem Gt {bW aV:Array Bool}{lim:List (Nat×Nat)}{tv:Nat->Value}{j:J}{w:World}{jl:List Nat}{a:Act}(hinv:Inv ops S fx v n j0 w0 O0 bW aV lim tv j w jl a)
  (f:∀m b,(m,b)∈lim->∃p,lU ops fx p m/\¬a8 aV p) (g:∀p,p<ops.size->a8 bW p):lim=[]:=by
 have:∀m b,(m,b)∈lim->False:=by
  intro m;induction m using Nat.strongRecOn with
  | _ m i =>
   intro b hm;obtain⟨p,k,hn⟩:=f m b hm;obtain⟨aT,_,oi,ok,l,_⟩:=k;rcases (hinv.gF p).1 (g p (nC l)) with h|⟨b',h⟩
   ·exact hn h
   ·exact i p aT b' h
 cases lim with
 | nil=>rfl
 | cons x r=>exact(this x.1 x.2 (by simp)).elim
include aT in
theorem Gu {aV:Array Bool}(g:aV.size=ops.size) (h:Region.ready .any ops aV=[]):∀p,p<ops.size->a8 aV p:=by
 intro p;induction p using Nat.strongRecOn with
 | _ p f =>
  intro b;rcases hr:aV.getD p false with _|_
  ·have:p∈Region.ready .any ops aV:=by
    simp only [Region.ready,List.mem_filter,List.mem_range,Bool.and_eq_true,Bool.not_eq_true'];refine⟨b, ?_, ?_⟩
    ·rw [Array.getD_eq_getD_getElem?,Array.getElem?_eq_getElem (by omega)] at hr ⊢
     simpa using hr
    ·rw [Array.getElem?_eq_getElem b];simp only [Option.map_some,Option.getD_some,Array.all_eq_true'];intro e he;cases hb:Region.binds .any e with
     | false=>simp
     | true =>
      have hl:=aT p _ (ja b) e (by simpa using he) hb;have:=f e.on hl (by omega)
      simpa [a8] using this
   rw [h] at this; simp at this
  ·exact hr
include aT cS hS in
theorem Gv {Q:Exit->Act->World->Prop}(O:∀j w jl a,fD j w jl (S ops.size) a->bQ j0 w0 O0 j w (bg j (S ops.size).h jl)->(S ops.size).n=n->Q .normal a w) (hn:∀k,k<=ops.size->(S k).n=n) :
  ∀(fuel:Nat) (bW aV:Array Bool) (lim:List (Nat×Nat)) (tv:Nat->Value) (j:J) (w:World) (jl:List Nat) (a:Act),((List.range ops.size).filter fun i=>!bW.getD i false).length<=fuel ->
   Inv ops S fx v n j0 w0 O0 bW aV lim tv j w jl a->(∀m b,(m,b)∈lim->∃p,lU ops fx p m/\¬a8 aV p)->wpAny P .any ops Q fuel bW a w:=by
 have fin:∀(bW aV:Array Bool) (lim:List (Nat×Nat)) (tv:Nat->Value) (j:J) (w:World) (jl:List Nat) (a:Act),Inv ops S fx v n j0 w0 O0 bW aV lim tv j w jl a ->
   (∀m b,(m,b)∈lim->∃p,lU ops fx p m/\¬a8 aV p)->(∀p,p<ops.size->a8 bW p)->Q .normal a w:=by
  intro bW aV lim tv j w jl a hinv q H;have R:=Gt hinv q H;subst R;have r:∀p,p<ops.size->a8 aV p:=fun p f=>((hinv.gF p).1 (H p f)).elim id fun⟨b,h⟩=>by simp at h
  obtain⟨kl,kh,U,W,X,Y,Z,aa,_⟩:=hinv.st;have ab:(S kl).ls=(S ops.size).ls:=oN (fun k=>(S k).ls) (fun p=>(fx p).wl=true) (a8 aV) (fun k hk hn=>(hS k _ (ja hk)).2.2.2.1 (by simpa using hn)) U (Nat.le_refl _) X
   fun p f _=>⟨fun _=>f,fun _=>r p f⟩
  have I:(S kh).h=(S ops.size).h:=oN (fun k=>(S k).h) (fun p=>(fx p).wh=true) (a8 aV) (fun k hk hn=>(hS k _ (ja hk)).2.2.2.2.1 (by simpa using hn)) W (Nat.le_refl _) Y
   fun p f _=>⟨fun _=>f,fun _=>r p f⟩
  refine O j w jl a ⟨hinv.defers,by rw [hn _ (Nat.le_refl _)]; exact hinv.oM,fun t=>?_,by rw [<- ab,<- I]; exact Z⟩ (by rw [<- I]; exact aa) (hn _ (Nat.le_refl _));obtain⟨k,hk,hw,hv⟩:=hinv.tm t;have:get (S k).ts t=get (S ops.size).ts t :=
   oN (fun k=>get (S k).ts t) (fun p=>∃o,ops[p]?=some o/\o.dst=some t) (a8 aV) (AD hS t) hk (Nat.le_refl _) (fun p _ ⟨op,h1,g⟩=>hw p op h1 g) fun p f _ =>
    ⟨fun _=>f,fun _=>r p f⟩
  rw [<- this,hinv.agree t fun m b o h=>by simp at h]; exact hv
 intro fuel;induction fuel with
 | zero =>
  intro bW aV lim tv j w jl a ad hinv q;have r:∀p,p<ops.size->a8 bW p:=by
   intro p f;rcases hr:bW.getD p false with _|_
   ·have:p∈(List.range ops.size).filter fun i=>!bW.getD i false:=by simp only [List.mem_filter,List.mem_range]; exact⟨f,by rw [hr]; rfl⟩
    have:=List.length_pos_of_mem this; omega
   ·exact hr
  refine⟨?_,fin bW aV lim tv j w jl a hinv q r⟩;rw [List.eq_nil_iff_forall_not_mem];intro i hi;obtain⟨_,_,u,l,_⟩:=AB hi hinv.kB;exact l (r i u)
 | succ fuel K =>
  intro bW aV lim tv j w jl a ad hinv q;refine⟨fun hr=>fin bW aV lim tv j w jl a hinv q (Gu aT hinv.kB hr),fun i hi=>?_⟩;obtain⟨o,x,u,l,y⟩:=AB hi hinv.kB;have L:i<bW.size:=by rw [hinv.kB]; exact u
  have M:((List.range ops.size).filter fun p=>!(bW.setIfInBounds i true).getD p false).length<=fuel:=by
   have af:((List.range ops.size).filter fun p=>!(bW.setIfInBounds i true).getD p false).length<((List.range ops.size).filter fun p=>!bW.getD p false).length:=by
    have ae:((List.range ops.size).filter fun p=>!(bW.setIfInBounds i true).getD p false)=((List.range ops.size).filter fun p=>!bW.getD p false).filter (fun p=>p != i):=by
     rw [List.filter_filter];refine List.filter_congr fun p _=>?_;by_cases z:p=i
     ·subst z;have s:a8 (bW.setIfInBounds p true) p:=(a8.set L).2 (.inl rfl);unfold a8 at s;rw [s]; simp
     ·have s:a8 (bW.setIfInBounds i true) p↔a8 bW p:=by rw [a8.set L]; simp [z]
      unfold a8 at s;rcases h1:(bW.setIfInBounds i true).getD p false with _|_<;>rcases g:bW.getD p false with _|_<;>rw [h1,g] at s<;>simp at s<;>simp [z]
    rw [ae];refine List.length_filter_lt_length_iff_exists.2 ⟨i, ?_,by simp⟩;simp only [List.mem_filter,List.mem_range];refine⟨u, ?_⟩;unfold a8 at l;simp at l ⊢; exact l
   omega
  have N:∀p,ord ops p i->a8 bW p:=fun p f=>vi aT x hinv.lV y f;have f:∀p,ord ops p i->a8 aV p:=fun p f=>((hinv.gF p).1 (N p f)).elim id fun⟨b,h⟩=>(Gs hinv q N p b h f).elim;by_cases c:∀p,lU ops fx p i->a8 aV p
  ·refine Gp aT cS hS hinv x l y (fun p h=>h.elim (f p) (c p)) fun ag j' w' ah a' B=>?_;exact settle cS hS _ (Nat.le_refl _) B fun C E F G h1 g=>K _ C E F j' w' G a' M h1 g
  ·have:(fx i).nu=true:=Classical.byContradiction fun c'=>c fun p f=>(c' f.2.1).elim;refine Gq aT cS hS hinv x l y f this fun w' a' b B=>?_;exact settle cS hS _ (Nat.le_refl _) B fun C E F G h1 g=>K _ C E F j w' G a' M h1 g
end
theorem au.wp {P:Program}(hm:P.follows .mixedOrders=true){id:Nat}{l:List Oper}{n:Nat}{Q:St->Prop}{σ:St}(y:au P l.toArray n l [] Q σ) (s:σ.n=n)
  {j:J}{w:World}{jl:List Nat}{a:Act}(g:fD j w jl σ a){u:Exit->Act->World->Prop}
  (hk:∀r j' w' q a',Q r->fD j' w' q r a'->bQ j w (bg j σ.h jl) j' w' (bg j' r.h q)->u .normal a' w'):(Code.region id l.toArray true).wp P u a w:=by
 obtain⟨S,fx,v,h0,h1,z,B⟩:=y;have x:=Gk (ops:=l.toArray) (fx:=fx) (by simpa using z);have hS:∀k o,l.toArray[k]?=some o->_:=fun k o hk=>h1 k o (by simpa using hk);have hn:∀k,k<=l.toArray.size->(S k).n=n:=by
  intro k;induction k with
  | zero=>intro _; rw [h0,s]
  | succ k C=>intro hk; rw [(hS k _ (ja (by omega))).2.1]; exact C (by omega)
 refine wp_region_any hm ?_;refine Gv (n:=n) (S:=S) (fx:=fx) (v:=v) (j0:=j) (w0:=w) (O0:=bg j σ.h jl) x.1 x.2 hS (fun j' w' q a' E he _=>hk (S l.toArray.size) j' w' q a' (by simpa using B) E he) hn _ _ (Array.replicate l.toArray.size false) [] (fun t=>a.tmps.getD t undef) j w.drew jl a ?_ ?_ (fun m b h=>by simp at h)
 ·have:=List.length_filter_le (fun i=>!(Array.replicate l.toArray.size false).getD i false) (List.range l.toArray.size)
  simpa using this
 ·have f:∀p,¬a8 (Array.replicate l.toArray.size false) p:=by
   intro p h;unfold a8 at h;rw [Array.getD_eq_getD_getElem?,Array.getElem?_replicate] at h
   split at h<;>simp at h
  refine⟨by simp,by simp,fun i=>⟨fun h=>(f i h).elim,fun h=>h.elim (fun h=>(f i h).elim) fun⟨b,h⟩=>by simp at h⟩,fun k h=>(f k h).elim,fun k h=>(f k h).elim,g.defers,by rw [g.size,s],fun _ _=>rfl,
   fun t=>⟨0,Nat.zero_le _,fun p _ _ _=>⟨fun h=>(f p h).elim,fun h=>by omega⟩, ?_⟩,
   ⟨0,0,Nat.zero_le _,Nat.zero_le _,fun p _ _=>⟨fun h=>(f p h).elim,fun h=>by omega⟩,fun p _ _=>⟨fun h=>(f p h).elim,fun h=>by omega⟩, ?_, ?_,fun m b h=>by simp at h⟩,.nil,fun m b h=>by simp at h⟩
  ·rw [h0]; exact(g.tmps t).mono (bQ.drew j w (bg j σ.h jl)).toLe (Ext.refl _)
  ·rw [h0]; exact g.hl.drew
  ·rw [h0]; exact bQ.drew _ _ _
end Go.Ab
