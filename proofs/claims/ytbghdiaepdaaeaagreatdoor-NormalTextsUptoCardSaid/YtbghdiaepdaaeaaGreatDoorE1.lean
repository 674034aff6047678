import Derived.WalkKit
import Derived.Orders
import Derived.Laws.Rows
set_option maxRecDepth 100000
set_option maxHeartbeats 2000000
set_option linter.unusedVariables false
set_option linter.unusedSimpArgs false
/-
 The abstract reading of memory: plain data D,the ghost map J,when a Go value reads as a datum,and how a world may evolve. No program text.
-/
namespace Go.Ab
open Go Go.RowKit
inductive D where
 | bool (b:Bool)
 | int (k:IntKind) (n:Int)
 | str (s:List UInt8)
 | slice (k:Nat) (tok:Option Nat) (nil:Bool) (rows:List (List D))
 | arr (k id:Nat) (nl:Bool) (len:Nat)
 | eY (id m off:Nat)
 | eC
 | ptr (id off:Nat)
 | view (cells:List D)
 | jB
 | map (id:Nat)
 | nilFunc
 | func (f:FuncId) (dh:List D)
 | yield (l:Nat)
 | qE
 | nilIface
 | iface (t:TypeId) (x:D)
 deriving Inhabited
inductive A where
 | d (x:D)
 | agg (xs:List D)
 deriving Inhabited
inductive V where
 | any
 | a (x:A)
 | dI (i off:Nat)
 | dM (xs:List A)
 | gd (c:Bool) (x:A)
 | jC (c:Bool) (i off:Nat)
 | full (k:Nat) (rows:List (List D))
 | o4 (c:Bool) (k:Nat) (rows:List (List D))
 deriving Inhabited
inductive Obj where
 | cells (xs:List D)
 | map (es:List (D×A))
 | tok (k m:Nat) (E:Option TypeId:=none)
 | arr (k:Nat) (rows:List (List D))
 | fix (b:Nat) (o:Go.Obj)
 | b_ (T:TypeId) (xs:List D)
 | eF (b:Nat) (o:Go.Obj)
abbrev ag:=Nat->Option Obj
def ag.set (h:ag) (i:Nat) (o:Option Obj):ag:=fun n=>if n=i then o else h n
structure Tk where
 dP:Option (Nat×Nat)
 m:Nat
structure J where
 out:Nat->Nat
 F:Nat->Nat
 tok:Nat->Option Tk
 next:Nat
inductive aR {α β:Type}(R:α->β->Prop):List α->List β->Prop where
 | nil:aR R [] []
 | cons {a b l m} (h:R a b) (t:aR R l m):aR R (a::l) (b::m)
theorem aR.imp {α β:Type}{R S:α->β->Prop}(h:∀a b,R a b->S a b){l:List α}{m:List β}(hl:aR R l m):aR S l m:=by
 induction hl with
 | nil=>exact .nil
 | cons x _ f=>exact .cons (h _ _ x) f
theorem aR.length {α β:Type}{R:α->β->Prop}{l:List α}{m:List β}(h:aR R l m):l.length=m.length:=by
 induction h with
 | nil=>rfl
 | cons _ _ b=>simp [b]
theorem aR.get {α β:Type}{R:α->β->Prop}{l:List α}{m:List β}(h:aR R l m):∀{i:Nat}{x:α},l[i]?=some x->∃y,m[i]?=some y/\R x y:=by
 induction h with
 | nil=>intro i x hx; simp at hx
 | cons hh _ b =>
  intro i x hx;cases i with
  | zero=>simp at hx; subst hx; exact⟨_,rfl,hh⟩
  | succ i=>simp at hx; simpa using b hx
theorem aR.get' {α β:Type}{R:α->β->Prop}{l:List α}{m:List β}(h:aR R l m):∀{i:Nat}{y:β},m[i]?=some y->∃x,l[i]?=some x/\R x y:=by
 induction h with
 | nil=>intro i x hx; simp at hx
 | cons hh _ b =>
  intro i x hx;cases i with
  | zero=>simp at hx; subst hx; exact⟨_,rfl,hh⟩
  | succ i=>simp at hx; simpa using b hx
theorem aR.l_ {α β:Type}{R:α->β->Prop}:∀{l:List α}{m:List β},l.length=m.length->(∀(i:Nat) x y,l[i]?=some x->m[i]?=some y->R x y)->aR R l m
 | [],[],_,_=>.nil
 | [],_::_,h,_=>by simp at h
 | _::_,[],h,_=>by simp at h
 | a::l,b::m,h,hr=>.cons (hr 0 a b rfl rfl) (aR.l_ (by simpa using h) fun i x y hx f=>hr (i+1) x y (by simpa using hx) (by simpa using f))
theorem aR.append {α β:Type}{R:α->β->Prop}{l l':List α}{m m':List β}(h:aR R l m) (h':aR R l' m'):aR R (l++l') (m++m'):=by
 induction h with
 | nil=>exact h'
 | cons x _ b=>exact .cons x b
theorem aR.set {α β:Type}{R:α->β->Prop}{l:List α}{m:List β}(h:aR R l m){a:α}{b:β}(hr:R a b) (i:Nat):aR R (l.set i a) (m.set i b):=by
 induction h generalizing i with
 | nil=>exact .nil
 | cons x t f =>
  cases i with
  | zero=>exact .cons hr t
  | succ i=>exact .cons x (f i)
theorem aR.take {α β:Type}{R:α->β->Prop}{l:List α}{m:List β}(h:aR R l m) (n:Nat):aR R (l.take n) (m.take n):=by
 induction h generalizing n with
 | nil=>simp; exact .nil
 | cons x t b =>
  cases n with
  | zero=>exact .nil
  | succ n=>exact .cons x (b n)
def cF:Nat:=140737488355328
def eH:Nat:=4611686018427387904
def qF (j:J) (tok:Option Nat) (n:Nat) (a:Addr) (cap:Nat):Prop :=
 ∀t,tok=some t->t<j.next/\∀k,j.tok t=some k->n<=k.m/\(n=k.m->(k.dP=none/\cap=n)\/∃b,k.dP=some (b,cap)/\a=⟨b,0,none⟩)
def tf (j:J) (id:Nat) (nl:Bool) (len:Nat) (a:Option Addr) (cap:Nat):Prop :=
 ∀tk,j.tok id=some tk->len<=tk.m/\(len=tk.m->(tk.dP=none/\nl=a.isNone/\cap=0)\/∃b,tk.dP=some (b,cap)/\a=some ⟨b,0,none⟩/\nl=false)
def At (j:J) (w:World) (a:Addr) (n:Nat) (cv:Nat->Value):Prop :=
 a.spot=none/\∀i,i<n->a.off+i<j.F a.block/\w.cell? ⟨a.block,a.off+i,none⟩=some (cv i)
def o9 (j:J) (w:World) (a:Addr) (rows:List (List D)) (cv:Nat->Value):Prop :=
 (rows=[]\/a.spot=none)/\∀i,i<rows.flatten.length->a.off+i<j.F a.block/\w.cell? ⟨a.block,a.off+i,none⟩=some (cv i)
inductive aA (j:J) (w:World):D->Value->Prop
 | bool (b:Bool):aA j w (.bool b) (.bool b)
 | int (k:IntKind) (n:Int):aA j w (.int k n) (.int k n)
 | str (s:List UInt8) (h:s.length<=eH):aA j w (.str s) (.string ⟨s.toArray⟩)
 | eU (k:Nat) (tok:Option Nat) (ht:∀t,tok=some t->t<j.next):aA j w (.slice k tok true []) (.slice none 0 0)
 | slice (k:Nat) (tok:Option Nat) (rows:List (List D)) (a:Addr) (cap:Nat) (cv:Nat->Value)
   (hk:∀r∈rows,r.length=k) (hn:rows.length<=cF) (hc:rows.length<=cap)
   (bJ:o9 j w a rows cv) (hr:∀i (h:i<rows.flatten.length),aA j w rows.flatten[i] (cv i))
   (ht:qF j tok rows.length a cap):aA j w (.slice k tok false rows) (.slice (some a) rows.length cap)
 | arr (k id:Nat) (nl:Bool) (len:Nat) (a:Option Addr) (cap:Nat) (hid:id<j.next) (hv:tf j id nl len a cap):aA j w (.arr k id nl len) (.slice a len cap)
 | eY (id m off b:Nat) (hid:id<j.next) (hv:∀tk,j.tok id=some tk->m<=tk.m/\(m=tk.m->∃c,tk.dP=some (b,c))):aA j w (.eY id m off) (.pointer (some ⟨b,off,none⟩))
 | eC:aA j w .eC (.pointer none)
 | ptr (id off:Nat) (h:id<j.next):aA j w (.ptr id off) (.pointer (some ⟨j.out id,off,none⟩))
 | view (cells:List D) (a:Addr) (cv:Nat->Value) (bJ:At j w a cells.length cv) (hr:∀i (h:i<cells.length),aA j w cells[i] (cv i)) :
   aA j w (.view cells) (.pointer (some a))
 | jB:aA j w .jB (.map none)
 | map (id b:Nat) (hid:id<j.next) (hv:∀tk,j.tok id=some tk->1<=tk.m/\(tk.m=1->∃c,tk.dP=some (b,c))):aA j w (.map id) (.map (some b))
 | nilFunc:aA j w .nilFunc .nilFunc
 | func (f:FuncId) (dh:List D) (gz:List Value) (hl:dh.length=gz.length) (hr:∀i (h:i<dh.length) (h':i<gz.length),aA j w dh[i] gz[i]) :
   aA j w (.func f dh) (.func (.func f) #[] gz.toArray)
 | yield (l:Nat):aA j w (.yield l) (.func (.yield l) #[] #[])
 | qE (t:Fn) (b c:Array Value):aA j w .qE (.func t b c)
 | nilIface:aA j w .nilIface .nilIface
 | iface (t:TypeId) (x:D) (v:Value) (h:aA j w x v):aA j w (.iface t x) (.iface t v)
def cT (j:J) (w:World):A->Value->Prop
 | .d x,v=>aA j w x v
 | .agg xs,v=>∃cs:List Value,v=.agg cs.toArray/\aR (aA j w) xs cs
def aZ (j:J) (w:World) (jl:List Nat):V->Value->Prop
 | .any,_=>True
 | .a x,v=>cT j w x v
 | .dI i off,v=>∃b,jl[i]?=some b/\v=.pointer (some ⟨b,off,none⟩)
 | .dM xs,v=>∃cs:List Value,v=.tuple cs.toArray/\aR (cT j w) xs cs
 | .gd c x,v=>(c=true->cT j w x v)/\(c=false->v=.tuple #[])
 | .jC c i off,v=>(c=true->∃b,jl[i]?=some b/\v=.pointer (some ⟨b,off,none⟩))/\(c=false->v=.tuple #[])
 | .o4 c k rows,v=>(c=true->aA j w (.slice k none false rows) v/\∃a,v=.slice (some a) rows.length rows.length)/\(c=false->v=.tuple #[])
 | .full k rows,v=>aA j w (.slice k none false rows) v/\∃a,v=.slice (some a) rows.length rows.length
structure Le (j:J) (w:World) (j':J) (w':World):Prop where
 next:j.next<=j'.next
 out:∀id,id<j.next->j'.out id=j.out id
 F:∀b,j.F b<=j'.F b
 data:∀b o,o<j.F b->w'.cell? ⟨b,o,none⟩=w.cell? ⟨b,o,none⟩
 tok:∀t,t<j.next->j'.tok t=j.tok t\/∃k k',j.tok t=some k/\j'.tok t=some k'/\k.m<k'.m
theorem Le.refl (j:J) (w:World):Le j w j w:=⟨Nat.le_refl _,fun _ _=>rfl,fun _=>Nat.le_refl _,fun _ _ _=>rfl,fun _ _=>.inl rfl⟩
theorem Le.trans {j g i:J}{w l m:World}(h:Le j w g l) (h':Le g l i m):Le j w i m:=by
 refine⟨Nat.le_trans h.next h'.next,fun id hi=>(h'.out id (Nat.lt_of_lt_of_le hi h.next)).trans (h.out id hi),fun b=>Nat.le_trans (h.F b) (h'.F b),
  fun b o p=>(h'.data b o (Nat.lt_of_lt_of_le p (h.F b))).trans (h.data b o p),fun t ht=>?_⟩
 rcases h'.tok t (Nat.lt_of_lt_of_le ht h.next) with e|⟨k,k',e,q,bh⟩
 ·rw [e]; exact h.tok t ht
 ·rcases h.tok t ht with f|⟨u,v,f,r,s⟩
  ·exact .inr ⟨k,k',f▸e,q,bh⟩
  ·rw [r] at e;simp only [Option.some.injEq] at e;subst e;exact .inr ⟨_,_,f,q,Nat.lt_trans s bh⟩
theorem qF.mono {j j':J}{w w':World}(hle:Le j w j' w'){tok:Option Nat}{n:Nat}{a:Addr}{cap:Nat}(h:qF j tok n a cap):qF j' tok n a cap:=by
 intro t ht;obtain⟨h1,b⟩:=h t ht;refine⟨Nat.lt_of_lt_of_le h1 hle.next,fun k hk=>?_⟩;rcases hle.tok t h1 with e|⟨g,k',e,f,bh⟩
 ·rw [e] at hk; exact b k hk
 ·rw [f] at hk;simp only [Option.some.injEq] at hk;subst hk;have:=(b _ e).1;exact⟨by omega,fun h=>by omega⟩
theorem tf.mono {j j':J}{w w':World}(hle:Le j w j' w'){id:Nat}{nl:Bool}{len:Nat}{a:Option Addr}{cap:Nat}(hid:id<j.next) (h:tf j id nl len a cap):tf j' id nl len a cap:=by
 intro tk hk;rcases hle.tok id hid with e|⟨f,k',e,b,bh⟩
 ·rw [e] at hk; exact h tk hk
 ·rw [b] at hk;simp only [Option.some.injEq] at hk;subst hk;have:=(h _ e).1;exact⟨by omega,fun h=>by omega⟩
theorem At.mono {j j':J}{w w':World}(hle:Le j w j' w'){a:Addr}{n:Nat}{cv:Nat->Value}(h:At j w a n cv):At j' w' a n cv :=
 ⟨h.1,fun i hi=>⟨Nat.lt_of_lt_of_le (h.2 i hi).1 (hle.F _),(hle.data _ _ (h.2 i hi).1).trans (h.2 i hi).2⟩⟩
theorem o9.mono {j j':J}{w w':World}(hle:Le j w j' w'){a:Addr}{rows:List (List D)}{cv:Nat->Value}(h:o9 j w a rows cv):o9 j' w' a rows cv :=
 ⟨h.1,fun i hi=>⟨Nat.lt_of_lt_of_le (h.2 i hi).1 (hle.F _),(hle.data _ _ (h.2 i hi).1).trans (h.2 i hi).2⟩⟩
theorem aA.mono {j j':J}{w w':World}(hle:Le j w j' w'){x:D}{v:Value}(h:aA j w x v):aA j' w' x v:=by
 induction h with
 | bool b=>exact .bool b
 | int k n=>exact .int k n
 | str s h=>exact .str s h
 | eU k tok ht=>exact .eU k tok fun t h=>Nat.lt_of_lt_of_le (ht t h) hle.next
 | slice k tok rows a cap cv hk hn hc bJ hr ht g=>exact .slice k tok rows a cap cv hk hn hc (bJ.mono hle) g (ht.mono hle)
 | arr k id nl len a cap hid hv=>exact .arr k id nl len a cap (Nat.lt_of_lt_of_le hid hle.next) (hv.mono hle hid)
 | eY id m off b hid hv =>
  refine .eY id m off b (Nat.lt_of_lt_of_le hid hle.next) fun tk hk=>?_;rcases hle.tok id hid with e|⟨o,k',e,i,bh⟩
  ·rw [e] at hk; exact hv tk hk
  ·rw [i] at hk;simp only [Option.some.injEq] at hk;subst hk;have:=(hv _ e).1;exact⟨by omega,fun h=>by omega⟩
 | eC=>exact .eC
 | ptr id off h =>
  rw [<- hle.out id h];exact .ptr id off (Nat.lt_of_lt_of_le h hle.next)
 | view cells a cv bJ hr g=>exact .view cells a cv (bJ.mono hle) g
 | jB=>exact .jB
 | map id b hid hv =>
  refine .map id b (Nat.lt_of_lt_of_le hid hle.next) fun tk hk=>?_;rcases hle.tok id hid with e|⟨o,k',e,i,bh⟩
  ·rw [e] at hk; exact hv tk hk
  ·rw [i] at hk;simp only [Option.some.injEq] at hk;subst hk;have:=(hv _ e).1;exact⟨by omega,fun h=>by omega⟩
 | nilFunc=>exact .nilFunc
 | func f dh gz hl hr g=>exact .func f dh gz hl g
 | yield l=>exact .yield l
 | qE t b c=>exact .qE t b c
 | nilIface=>exact .nilIface
 | iface t x v h g=>exact .iface t x v g
theorem cT.mono {j j':J}{w w':World}(hle:Le j w j' w'){x:A}{v:Value}(h:cT j w x v):cT j' w' x v:=by
 cases x with
 | d x=>exact aA.mono hle h
 | agg xs=>obtain⟨cs,e,h⟩:=h; exact⟨cs,e,h.imp fun _ _ h=>h.mono hle⟩
def Ext (jl f:List Nat):Prop:=∀(i b:Nat),jl[i]?=some b->f[i]?=some b
theorem Ext.refl (jl:List Nat):Ext jl jl:=fun _ _ h=>h
theorem aZ.mono {j j':J}{w w':World}(hle:Le j w j' w'){jl g:List Nat}(hx:Ext jl g){x:V}{v:Value}(h:aZ j w jl x v):aZ j' w' g x v:=by
 cases x with
 | any=>trivial
 | a x=>exact cT.mono hle h
 | dI i off=>obtain⟨b,f,e⟩:=h; exact⟨b,hx i b f,e⟩
 | dM xs=>obtain⟨cs,e,h⟩:=h; exact⟨cs,e,h.imp fun _ _ h=>h.mono hle⟩
 | gd c x=>exact⟨fun hc=>cT.mono hle (h.1 hc),h.2⟩
 | jC c i off=>exact⟨fun hc=>let ⟨b,f,e⟩:=h.1 hc; ⟨b,hx i b f,e⟩,h.2⟩
 | full k rows=>exact⟨h.1.mono hle,h.2⟩
 | o4 c k rows=>exact⟨fun hc=>⟨(h.1 hc).1.mono hle,(h.1 hc).2⟩,h.2⟩
def bG (j:J) (id:Nat):Obj->Option Nat
 | .tok _ _ _=>(j.tok id).bind fun k=>k.dP.map (·.1)
 | .arr _ _=>(j.tok id).bind fun k=>k.dP.map (·.1)
 | .map _=>(j.tok id).bind fun k=>k.dP.map (·.1)
 | .fix b _=>some b
 | .eF b _=>some b
 | _=>some (j.out id)
def iZ (j:J) (w:World) (e:D×A) (m:MapEntry):Prop:=aA j w e.1 m.key/\cT j w e.2 m.val
def kn (b:List MapEntry) (bA:Nat):Prop:=(b.map (·.born)).Nodup/\(∀m∈b,m.born<bA)/\(b.map (·.key)).Nodup
def fA (j:J) (w:World) (id:Nat):Obj->Prop
 | .cells xs=>∃(cs:List Value) (e:TypeId),w.heap[j.out id]?=some (.cells cs.toArray e (0,0))/\aR (aA j w) xs cs/\j.F (j.out id)=0
 | .map es=>∃(b c:Nat) (f:List MapEntry) (bA:Nat),j.tok id=some ⟨some (b,c),1⟩/\w.heap[b]?=some (.map f.toArray bA)/\aR (iZ j w) es f/\j.F b=0/\kn f bA
 | .b_ T xs=>∃cs:List Value,w.heap[j.out id]?=some (.cells cs.toArray T (0,0))/\aR (aA j w) xs cs/\j.F (j.out id)=0
 | .tok k m E=>∃dP,j.tok id=some ⟨dP,m⟩/\(∀b cap,dP=some (b,cap)->∃(cs:Array Value) (e:TypeId),w.heap[b]?=some (.cells cs e (0,0))/\cs.size=cap*k/\j.F b=m*k/\m<=cap/\∀T,E=some T->e=T)/\(E.isSome=true->dP=none->m=0)
 | .fix b o=>w.heap[b]?=some o
 | .eF b o=>∃c,j.tok id=some ⟨some (b,c),1⟩/\w.heap[b]?=some o/\j.F b=0
 | .arr k rows=>∃dP,j.tok id=some ⟨dP,rows.length⟩/\(dP=none↔rows=[])/\(∀r∈rows,r.length=k)/\rows.length<=cF/\∀b cap,dP=some (b,cap) ->
   ∃(cs:List Value) (e:TypeId),w.heap[b]?=some (.cells cs.toArray e (0,0))/\cs.length=cap*k/\j.F b=0/\rows.length<=cap/\aR (aA j w) rows.flatten (cs.take (rows.length*k))
def Obj.tokd:Obj->Bool
 | .tok _ _ _=>true
 | .arr _ _=>true
 | .map _=>true
 | .fix _ _=>true
 | .eF _ _=>true
 | _=>false
def Own (j:J) (h:ag) (jl:List Nat) (b:Nat):Prop:=b∈jl\/∃id o,h id=some o/\bG j id o=some b
structure dY (j:J) (w:World) (h:ag):Prop where
 obj:∀id o,h id=some o->id<j.next/\fA j w id o
 inj:∀gA o1 gB o2 b,h gA=some o1->h gB=some o2->bG j gA o1=some b->bG j gB o2=some b->gA=gB
 fresh:∀b,w.heap.size<=b->j.F b=0
def ko (j:J) (w:World) (b:Nat) (xs:List D):Prop:=∃(cs:List Value) (e:TypeId),w.heap[b]?=some (.cells cs.toArray e (0,0))/\aR (aA j w) xs cs/\j.F b=0
structure LS (j:J) (w:World) (h:ag) (ls:List (List D)) (jl:List Nat):Prop where
 each:aR (fun xs b=>ko j w b xs) ls jl
 nodup:jl.Nodup
 apart:∀b,b∈jl->¬Own j h [] b
class bf where
 El:Prop
abbrev bf.on:bf:=⟨True⟩
abbrev bf.off:bf:=⟨False⟩
variable {an:bf}
def fG [bf] (w w':World):Prop:=w'.output=w.output/\(w.drawn<=w'.drawn\/bf.El)
theorem fG.rfl {w w':World}(h1:w'.output=w.output:=by first|rfl|simp) (b:w.drawn<=w'.drawn:=by first|exact Nat.le_refl _|exact Nat.le_succ _|simp):fG w w':=⟨h1,.inl b⟩
theorem fG.trans {w f g:World}(h':fG f g) (h:fG w f):fG w g:=⟨h'.1.trans h.1,h.2.elim (fun a=>h'.2.elim (fun b=>.inl (Nat.le_trans a b)) .inr) .inr⟩
structure bC [bf] (j:J) (w:World) (O:Nat->Prop) (j':J) (w':World) (O':Nat->Prop):Prop extends Le j w j' w' where
 size:w.heap.size<=w'.heap.size
 frame:∀b,b<w.heap.size->¬O b->w'.heap[b]?=w.heap[b]?/\j'.F b=j.F b
 own:∀b,b<w.heap.size->O' b->O b
 os:w'.os=w.os
 tape:w'.tape=w.tape
 output:fG w w'
theorem bC.refl (j:J) (w:World) (O:Nat->Prop):bC j w O j w O :=
 ⟨Le.refl _ _,Nat.le_refl _,fun _ _ _=>⟨rfl,rfl⟩,fun _ _ h=>h,rfl,rfl,fG.rfl⟩
theorem bC.trans {j i k:J}{w l m:World}{O o O2:Nat->Prop}(h:bC j w O i l o) (h':bC i l o k m O2):bC j w O k m O2:=by
 refine⟨h.toLe.trans h'.toLe,Nat.le_trans h.size h'.size,fun b f g=>?_,fun b f g=>h.own b f (h'.own b (Nat.lt_of_lt_of_le f h.size) g),h'.os.trans h.os,h'.tape.trans h.tape,h'.output.trans h.output⟩;have h1:=h.frame b f g;have p:=h'.frame b (Nat.lt_of_lt_of_le f h.size) (fun q=>g (h.own b f q));exact⟨p.1.trans h1.1,p.2.trans h1.2⟩
theorem bC.drew (j:J) (w:World) (O:Nat->Prop):bC j w O j w.drew O :=
 ⟨⟨Nat.le_refl _,fun _ _=>rfl,fun _=>Nat.le_refl _,fun _ _ _=>rfl,fun _ _=>.inl rfl⟩,Nat.le_refl _,fun _ _ _=>⟨rfl,rfl⟩,fun _ _ h=>h,rfl,rfl,fG.rfl⟩
theorem bC.drop {j j':J}{w w':World}{O O' f:Nat->Prop}(h:bC j w O j' w' O') (g:∀b,f b->O' b):bC j w O j' w' f :=
 { h with own:=fun b i h'=>h.own b i (g b h') }
def V.under (c:Bool):V->V
 | .a x=>.gd c x
 | .dI i off=>.jC c i off
 | .full k rows=>.o4 c k rows
 | _=>.any
theorem V.Em {j:J}{w:World}{jl:List Nat}{x:V}{v:Value}(h:aZ j w jl x v):aZ j w jl (x.under true) v:=by
 cases x with
 | a x=>exact⟨fun _=>h,fun e=>by cases e⟩
 | dI i off=>exact⟨fun _=>h,fun e=>by cases e⟩
 | full k rows=>exact⟨fun _=>h,fun e=>by cases e⟩
 | _=>trivial
theorem V.Eo {j:J}{w:World}{jl:List Nat}(x:V):aZ j w jl (x.under false) (.tuple #[]):=by
 cases x with
 | a x=>exact⟨(fun e=>by cases e),fun _=>rfl⟩
 | dI i off=>exact⟨(fun e=>by cases e),fun _=>rfl⟩
 | full k rows=>exact⟨(fun e=>by cases e),fun _=>rfl⟩
 | _=>trivial
end Go.Ab
/-
 How the steps of the model change the abstract state: a new block of data,a new object,a new local,a store,an append.
-/
namespace Go.Ab
open Go Go.RowKit
variable {an:bf}
def HL (j:J) (w:World) (jl:List Nat) (ls:List (List D)) (h:ag):Prop:=dY j w h/\LS j w h ls jl
theorem fN {w:World}{b:Nat}{o:Go.Obj}(h:w.heap[b]?=some o):b<w.heap.size:=by
 rcases Nat.lt_or_ge b w.heap.size with h'|h'
 ·exact h'
 ·rw [Array.getElem?_eq_none h'] at h; simp at h
theorem fA.LU {j:J}{w:World}{id:Nat}{o:Obj}(h:fA j w id o){b:Nat}(f:bG j id o=some b):b<w.heap.size:=by
 cases o with
 | cells xs=>obtain⟨cs,e,hh,_⟩:=h; simp only [bG,Option.some.injEq] at f; subst f; exact fN hh
 | b_ T xs=>obtain⟨cs,hh,_⟩:=h; simp only [bG,Option.some.injEq] at f; subst f; exact fN hh
 | fix g o=>simp only [bG,Option.some.injEq] at f; subst f; exact fN h
 | eF g o=>obtain⟨c,_,hh,_⟩:=h; simp only [bG,Option.some.injEq] at f; subst f; exact fN hh
 | map es =>
  obtain⟨g,c,l,bA,ht,hh,_⟩:=h;simp only [bG,ht,Option.bind_some,Option.map_some,Option.some.injEq] at f;subst f; exact fN hh
 | tok k m E =>
  obtain⟨dP,ht,hh,_⟩:=h;simp only [bG,ht,Option.bind_some] at f;cases dP with
  | none=>simp at f
  | some i =>
   obtain⟨g,cap⟩:=i;simp only [Option.map_some,Option.some.injEq] at f;subst f;obtain⟨cs,e,hh,_⟩:=hh _ _ rfl;exact fN hh
 | arr k rows =>
  obtain⟨dP,ht,_,_,_,hh⟩:=h;simp only [bG,ht,Option.bind_some] at f;cases dP with
  | none=>simp at f
  | some i =>
   obtain⟨g,cap⟩:=i;simp only [Option.map_some,Option.some.injEq] at f;subst f;obtain⟨cs,e,hh,_⟩:=hh _ _ rfl;exact fN hh
theorem Own.lt {j:J}{w:World}{jl:List Nat}{ls:List (List D)}{h:ag}(hl:HL j w jl ls h){b:Nat}(f:Own j h jl b):b<w.heap.size:=by
 rcases f with hm|⟨id,o,hi,g⟩
 ·obtain⟨i,hi⟩:=List.getElem?_of_mem hm;obtain⟨xs,_,cs,e,hh,_⟩:=hl.2.each.get' hi;exact fN hh
 ·exact(hl.1.obj id o hi).2.LU g
theorem iZ.mono {j j':J}{w w':World}(hle:Le j w j' w'){e:D×A}{m:MapEntry}(h:iZ j w e m):iZ j' w' e m:=⟨h.1.mono hle,h.2.mono hle⟩
theorem fA.keep {j j':J}{w w':World}(hle:Le j w j' w'){id:Nat}{o:Obj}(hid:id<j.next) (h:fA j w id o)
  (l:∀b,bG j id o=some b->w'.heap[b]?=w.heap[b]?/\j'.F b=j.F b) (ht:o.tokd=true->j'.tok id=j.tok id):fA j' w' id o/\bG j' id o=bG j id o:=by
 cases o with
 | cells xs =>
  obtain⟨cs,e,hh,hx,p⟩:=h;obtain⟨f,g⟩:=l _ rfl;have q:=hle.out id hid;exact⟨⟨cs,e,by rw [q,f]; exact hh,hx.imp fun _ _ h=>h.mono hle,by rw [q,g]; exact p⟩,by simp [bG,q]⟩
 | b_ T xs =>
  obtain⟨cs,hh,hx,p⟩:=h;obtain⟨f,g⟩:=l _ rfl;have q:=hle.out id hid;exact⟨⟨cs,by rw [q,f]; exact hh,hx.imp fun _ _ h=>h.mono hle,by rw [q,g]; exact p⟩,by simp [bG,q]⟩
 | fix b o =>
  obtain⟨f,_⟩:=l b rfl;exact⟨f.trans h,rfl⟩
 | eF b o =>
  obtain⟨c,s,hh,p⟩:=h;have i:=ht rfl;obtain⟨f,g⟩:=l b rfl;exact⟨⟨c,by rw [i]; exact s,f.trans hh,by rw [g]; exact p⟩,rfl⟩
 | map es =>
  obtain⟨b,c,y,bA,s,hh,hx,p,hB⟩:=h;have i:=ht rfl;obtain⟨f,g⟩:=l b (by simp [bG,s]);exact⟨⟨b,c,y,bA,by rw [i]; exact s,by rw [f]; exact hh,hx.imp fun _ _ h=>h.mono hle,by rw [g]; exact p,hB⟩,by simp [bG,i]⟩
 | tok k m E =>
  obtain⟨dP,e,hh,z⟩:=h;have i:=ht rfl;refine⟨⟨dP,by rw [i]; exact e,fun b cap r=>?_,z⟩,by simp [bG,i]⟩;obtain⟨cs,ty,h1,t,u,v,x⟩:=hh b cap r;obtain⟨f,g⟩:=l b (by simp [bG,e,r]);exact⟨cs,ty,by rw [f]; exact h1,t,by rw [g]; exact u,v,x⟩
 | arr k rows =>
  obtain⟨dP,e,g2,g3,g4,hh⟩:=h;have i:=ht rfl;refine⟨⟨dP,by rw [i]; exact e,g2,g3,g4,fun b cap r=>?_⟩,by simp [bG,i]⟩;obtain⟨cs,ty,h1,t,u,v,x⟩:=hh b cap r;obtain⟨f,g⟩:=l b (by simp [bG,e,r]);exact⟨cs,ty,by rw [f]; exact h1,t,by rw [g]; exact u,v,x.imp fun _ _ h=>h.mono hle⟩
theorem ko.keep {j j':J}{w w':World}(hle:Le j w j' w'){b:Nat}{xs:List D}(h:ko j w b xs) (f:w'.heap[b]?=w.heap[b]?/\j'.F b=j.F b):ko j' w' b xs:=by
 obtain⟨cs,e,hh,hx,g⟩:=h;exact⟨cs,e,by rw [f.1]; exact hh,hx.imp fun _ _ h=>h.mono hle,by rw [f.2]; exact g⟩
theorem pe {α β:Type}{R S:α->β->Prop}{l:List α}{m:List β}(hl:aR R l m) (h:∀a b,b∈m->R a b->S a b):aR S l m:=by
 induction hl with
 | nil=>exact .nil
 | cons x _ f=>exact .cons (h _ _ (by simp) x) (f fun a b g=>h a b (by simp [g]))
theorem HL.keep {j j':J}{w w':World}{jl:List Nat}{ls:List (List D)}{h:ag}(hl:HL j w jl ls h) (hle:Le j w j' w')
  (f:∀b,Own j h jl b->w'.heap[b]?=w.heap[b]?/\j'.F b=j.F b) (ht:∀id,id<j.next->(∃o,h id=some o/\o.tokd=true)->j'.tok id=j.tok id)
  (k:∀b,w'.heap.size<=b->j'.F b=0):HL j' w' jl ls h/\∀b,Own j' h jl b↔Own j h jl b:=by
 have key:∀id o,h id=some o->fA j' w' id o/\bG j' id o=bG j id o:=fun id o hi =>
  (hl.1.obj id o hi).2.keep hle (hl.1.obj id o hi).1 (fun b e=>f b (.inr ⟨id,o,hi,e⟩)) (fun e=>ht id (hl.1.obj id o hi).1 ⟨o,hi,e⟩)
 have g:∀jl b,Own j' h jl b↔Own j h jl b:=by
  intro jl b;constructor
  ·rintro (hm|⟨id,o,hi,e⟩)
   ·exact .inl hm
   ·exact .inr ⟨id,o,hi,(key id o hi).2▸e⟩
  ·rintro (hm|⟨id,o,hi,e⟩)
   ·exact .inl hm
   ·exact .inr ⟨id,o,hi,(key id o hi).2.symm▸e⟩
 refine⟨⟨⟨fun id o hi=>⟨Nat.lt_of_lt_of_le (hl.1.obj id o hi).1 hle.next,(key id o hi).1⟩,fun gA o1 gB o2 b h1 i l m=>?_,k⟩,
  ⟨pe hl.2.each fun xs b hm h=>h.keep hle (f b (.inl hm)),hl.2.nodup,fun b hm p=>hl.2.apart b hm ((g [] b).1 p)⟩⟩,g jl⟩
 exact hl.1.inj gA o1 gB o2 b h1 i ((key gA o1 h1).2▸l) ((key gB o2 i).2▸m)
theorem HL.drew {j:J}{w:World}{jl:List Nat}{ls:List (List D)}{h:ag}(hl:HL j w jl ls h):HL j w.drew jl ls h :=
 (hl.keep (@bC.toLe bf.off _ _ _ _ _ _ (@bC.drew bf.off j w (Own j h jl))) (fun _ _=>⟨rfl,rfl⟩) (fun _ _ _=>rfl) hl.1.fresh).1
theorem pg {w:World}{o:Go.Obj}{b:Nat}(h:b<w.heap.size):(w.alloc o).heap[b]?=w.heap[b]?:=by
 show (w.heap.push o)[b]?=_;rw [Array.getElem?_push,if_neg (by omega)]
def J.eZ (j:J) (b n:Nat):J:={ j with F:=fun x=>if x=b then n else j.F x }
theorem Le.alloc {j:J}{w:World}{o:Go.Obj}(f:∀b,w.heap.size<=b->j.F b=0) (n:Nat):Le j w (j.eZ w.heap.size n) (w.alloc o):=by
 refine⟨Nat.le_refl _,fun _ _=>rfl,fun b=>?_,fun b o' g=>?_,fun _ _=>.inl rfl⟩
 ·simp only [J.eZ]
  split
  ·rename_i e; rw [f b (by omega)]; exact Nat.zero_le _
  ·exact Nat.le_refl _
 ·have i:b<w.heap.size:=by
   rcases Nat.lt_or_ge b w.heap.size with h|h
   ·exact h
   ·rw [f b h] at g; omega
  exact World.cell?_alloc_lt w _ _ i
theorem HL.data {j:J}{w:World}{jl:List Nat}{ls:List (List D)}{h:ag}(hl:HL j w jl ls h) (o:Go.Obj) (n:Nat) :
  HL (j.eZ w.heap.size n) (w.alloc o) jl ls h/\bC j w (Own j h jl) (j.eZ w.heap.size n) (w.alloc o) (Own (j.eZ w.heap.size n) h jl):=by
 have hle:=Le.alloc (o:=o) hl.1.fresh n;have h1:∀b,b<w.heap.size->(w.alloc o).heap[b]?=w.heap[b]?/\(j.eZ w.heap.size n).F b=j.F b:=fun b f =>
  ⟨pg f,by simp only [J.eZ]; rw [if_neg (by omega)]⟩
 have hk:=hl.keep hle (fun b g=>h1 b (g.lt hl)) (fun _ _ _=>rfl) (fun b f=>by
  simp only [World.size_alloc] at f;simp only [J.eZ]; rw [if_neg (by omega)]; exact hl.1.fresh b (by omega))
 exact⟨hk.1,{ toLe:=hle,size:=by simp,frame:=fun b f _=>h1 b f,own:=fun b _ g=>(hk.2 b).1 g,os:=rfl,tape:=rfl,output:=fG.rfl }⟩
theorem J.tg {j:J}{b:Nat}(h:j.F b=0):j.eZ b 0=j:=by
 unfold J.eZ;have:(fun x=>if x=b then 0 else j.F x)=j.F:=by
  funext x; split
  ·rename_i e; rw [e,h]
  ·rfl
 rw [this]
theorem HL.loc {j:J}{w:World}{jl:List Nat}{ls:List (List D)}{h:ag}(hl:HL j w jl ls h) (cs:List Value) (e:TypeId) (xs:List D) (hx:aR (aA j w) xs cs) :
  HL j (w.alloc (.cells cs.toArray e)) (jl++[w.heap.size]) (ls++[xs]) h/\bC j w (Own j h jl) j (w.alloc (.cells cs.toArray e)) (Own j h (jl++[w.heap.size])):=by
 have i:=hl.data (an:=an) (.cells cs.toArray e) 0;rw [J.tg (hl.1.fresh _ (Nat.le_refl _))] at i;obtain⟨hk,k⟩:=i;have l:∀b,b∈jl->b<w.heap.size:=fun b g=>(Own.lt hl (.inl g));refine⟨⟨hk.1,⟨hk.2.each.append (.cons ⟨cs,e,heap_alloc_new w _,hx.imp fun _ _ h=>h.mono k.toLe,hl.1.fresh _ (Nat.le_refl _)⟩ .nil), ?_,fun b g f=>?_⟩⟩, ?_⟩
 ·rw [List.nodup_append];refine⟨hk.2.nodup,by simp,fun a m b g=>?_⟩;simp at g; subst g;have:=l a m; omega
 ·rcases List.mem_append.1 g with g|g
  ·exact hk.2.apart b g f
  ·simp at g; subst g;have:w.heap.size<w.heap.size:=by
    rcases f with f|⟨id,o,hi,e⟩
    ·simp at f
    ·exact Own.lt hl (.inr ⟨id,o,hi,e⟩)
   omega
 ·refine { k with own:=fun b g f=>?_ };rcases f with f|f
  ·rcases List.mem_append.1 f with f|f
   ·exact .inl f
   ·simp at f; omega
  ·exact .inr f
def J.obj (j:J) (b:Nat):J:={ j with out:=fun x=>if x=j.next then b else j.out x,next:=j.next+1 }
theorem ag.cn (h:ag) (i:Nat) (o:Option Obj):h.set i o i=o:=by simp [ag.set]
theorem ag.bV (h:ag){i n:Nat}(o:Option Obj) (hn:n≠i):h.set i o n=h n:=by simp [ag.set,hn]
theorem ag.set_set (h:ag) (i:Nat) (o o':Option Obj):(h.set i o).set i o'=h.set i o':=by
 funext n; simp only [ag.set]; split<;>rfl
theorem ag.nB (h:ag) (i:Nat) (o:Option Obj) (hi:h i=o):h.set i o=h:=by
 funext n; simp only [ag.set]; split
 ·rename_i e; rw [e,hi]
 ·rfl
theorem dY.kq {j:J}{w:World}{h:ag}(hr:dY j w h){id:Nat}(hi:j.next<=id):h id=none:=by
 cases e:h id with
 | none=>rfl
 | some o=>have:=(hr.obj id o e).1; omega
theorem HL.obj {j:J}{w:World}{jl:List Nat}{ls:List (List D)}{h:ag}(hl:HL j w jl ls h) (go:Go.Obj) (o:Obj) (l:o.tokd=false)
  (u:fA (j.obj w.heap.size) (w.alloc go) j.next o) :
  HL (j.obj w.heap.size) (w.alloc go) jl ls (h.set j.next (some o)) /\
   bC j w (Own j h jl) (j.obj w.heap.size) (w.alloc go) (Own (j.obj w.heap.size) (h.set j.next (some o)) jl):=by
 have s:=hl.data (an:=an) go 0;rw [J.tg (hl.1.fresh _ (Nat.le_refl _))] at s;obtain⟨hk,t⟩:=s;have hle:Le j (w.alloc go) (j.obj w.heap.size) (w.alloc go) :=
  ⟨by simp [J.obj],fun id hi=>by simp only [J.obj]; rw [if_neg (by omega)],fun _=>Nat.le_refl _,fun _ _ _=>rfl,fun _ _=>.inl rfl⟩
 have f:=hk.keep hle (fun _ _=>⟨rfl,rfl⟩) (fun _ _ _=>rfl) hk.1.fresh;have hblk:bG (j.obj w.heap.size) j.next o=some w.heap.size:=by
  cases o with
  | tok k m E=>simp [Obj.tokd] at l
  | arr k rows=>simp [Obj.tokd] at l
  | cells xs=>simp [bG,J.obj]
  | b_ T xs=>simp [bG,J.obj]
  | map es=>simp [Obj.tokd] at l
  | eF b o=>simp [Obj.tokd] at l
  | fix b o=>simp [Obj.tokd] at l
 have hold:∀id o',h id=some o'->id≠j.next:=fun id o' hi e=>by
  rw [e,hl.1.kq (Nat.le_refl _)] at hi; simp at hi
 have bh:∀id o' b,h id=some o'->bG (j.obj w.heap.size) id o'=some b->b<w.heap.size:=fun id o' b hi e =>
  Own.lt hl ((f.2 b).1 (.inr ⟨id,o',hi,e⟩))
 refine⟨⟨⟨fun id o' hi=>?_,fun gA o1 gB o2 b h1 g q r=>?_,hk.1.fresh⟩,⟨f.1.2.each,f.1.2.nodup,fun b p i=>?_⟩⟩, ?_⟩
 ·by_cases e:id=j.next
  ·subst e; rw [ag.cn] at hi; simp only [Option.some.injEq] at hi; subst hi;exact⟨by simp [J.obj],u⟩
  ·rw [ag.bV h _ e] at hi; exact f.1.1.obj id o' hi
 ·by_cases c1:gA=j.next<;>by_cases c2:gB=j.next
  ·omega
  ·subst c1; rw [ag.cn] at h1; simp only [Option.some.injEq] at h1; subst h1;rw [ag.bV h _ c2] at g;rw [hblk] at q; simp only [Option.some.injEq] at q;have:=bh gB o2 b g r; omega
  ·subst c2; rw [ag.cn] at g; simp only [Option.some.injEq] at g; subst g;rw [ag.bV h _ c1] at h1;rw [hblk] at r; simp only [Option.some.injEq] at r;have:=bh gA o1 b h1 q; omega
  ·rw [ag.bV h _ c1] at h1; rw [ag.bV h _ c2] at g;exact f.1.1.inj gA o1 gB o2 b h1 g q r
 ·rcases i with i|⟨id,o',hi,e⟩
  ·simp at i
  ·by_cases c:id=j.next
   ·subst c; rw [ag.cn] at hi; simp only [Option.some.injEq] at hi; subst hi;rw [hblk] at e; simp only [Option.some.injEq] at e;have:=Own.lt hl (.inl p); omega
   ·rw [ag.bV h _ c] at hi;exact f.1.2.apart b p (.inr ⟨id,o',hi,e⟩)
 ·refine { toLe:=t.toLe.trans hle,size:=by simp,frame:=fun b p hn=>t.frame b p hn,own:=fun b p i=>?_,os:=rfl,tape:=rfl,output:=fG.rfl };rcases i with i|⟨id,o',hi,e⟩
  ·exact .inl i
  ·by_cases c:id=j.next
   ·subst c; rw [ag.cn] at hi; simp only [Option.some.injEq] at hi; subst hi;rw [hblk] at e; simp only [Option.some.injEq] at e; omega
   ·rw [ag.bV h _ c] at hi;exact(f.2 b).1 (.inr ⟨id,o',hi,e⟩)
end Go.Ab
/-
 Stores: into a local,into an object; slices that grow.
-/
namespace Go.Ab
open Go Go.RowKit
variable {an:bf}
structure fB [bf] (w w':World) (b:Nat) (o:Go.Obj):Prop where
 size:w'.heap.size=w.heap.size
 here:w'.heap[b]?=some o
 other:∀x,x≠b->w'.heap[x]?=w.heap[x]?
 os:w'.os=w.os
 tape:w'.tape=w.tape
 output:fG w w'
theorem ph {w w':World}{b o:Nat}(h:w'.heap[b]?=w.heap[b]?):w'.cell? ⟨b,o,none⟩=w.cell? ⟨b,o,none⟩:=by simp [World.cell?,h]
theorem fB.le {j:J}{w w':World}{b:Nat}{o:Go.Obj}(hu:fB w w' b o) (f:j.F b=0):Le j w j w' :=
 ⟨Nat.le_refl _,fun _ _=>rfl,fun _=>Nat.le_refl _,fun x i hi=>ph (hu.other x fun e=>by rw [e,f] at hi; omega),fun _ _=>.inl rfl⟩
theorem LV {α β:Type}{R S:α->β->Prop}{l:List α}{m:List β}(hl:aR R l m) (o:m.Nodup){i:Nat}{y:β}(j:m[i]?=some y) (x:α) (hx:S x y)
  (h:∀a b,b∈m->b≠y->R a b->S a b):aR S (l.set i x) m:=by
 refine aR.l_ (by simp [hl.length]) fun n a b f g=>?_;by_cases e:i=n
 ·subst e;rw [j] at g; simp only [Option.some.injEq] at g; subst g;rw [List.getElem?_set] at f;simp only [if_true] at f
  split at f
  ·simp only [Option.some.injEq] at f; subst f; exact hx
  ·simp at f
 ·rw [List.getElem?_set,if_neg e] at f;obtain⟨q,k,hr⟩:=hl.get f;rw [g] at k; simp only [Option.some.injEq] at k; subst k;refine h _ _ (List.mem_of_getElem? g) (fun p=>?_) hr;subst p;exact e ((List.getElem?_inj (List.getElem?_eq_some_iff.1 j).1 o).1 (j.trans g.symm))
theorem HL.LW {j:J}{w w':World}{jl:List Nat}{ls:List (List D)}{h:ag}(hl:HL j w jl ls h){i b:Nat}(g:jl[i]?=some b) (k:j.F b=0)
  {cs:List Value}{e:TypeId}(hu:fB w w' b (.cells cs.toArray e (0,0))){xs:List D}(hx:aR (aA j w) xs cs) :
  HL j w' jl (ls.set i xs) h/\bC j w (Own j h jl) j w' (Own j h jl):=by
 have hle:=hu.le (j:=j) k;have l:b∈jl:=List.mem_of_getElem? g;have m:∀x,Own j h [] x->x≠b:=fun x f e=>hl.2.apart b l (e▸f);have hr:dY j w' h/\∀x,Own j h [] x↔Own j h [] x:=by
  have h0:HL j w [] [] h:=⟨hl.1,⟨.nil,by simp,by simp⟩⟩;have:=h0.keep hle (fun x f=>⟨hu.other x (m x f),rfl⟩) (fun _ _ _=>rfl) (fun x hx=>hl.1.fresh x (by rw [hu.size] at hx; exact hx));exact⟨this.1.1,fun _=>Iff.rfl⟩
 refine⟨⟨hr.1,⟨LV hl.2.each hl.2.nodup g xs ⟨cs,e,hu.here,hx.imp fun _ _ h=>h.mono hle,k⟩ fun a y _ o h=>h.keep hle ⟨hu.other y o,rfl⟩,hl.2.nodup,hl.2.apart⟩⟩,
  { toLe:=hle,size:=by rw [hu.size]; exact Nat.le_refl _,frame:=fun x _ hn=>⟨hu.other x fun e=>hn (e▸.inl l),rfl⟩,own:=fun _ _ h=>h,os:=hu.os,tape:=hu.tape,output:=hu.output }⟩
theorem HL.setObj {j:J}{w w':World}{jl:List Nat}{ls:List (List D)}{h:ag}(hl:HL j w jl ls h){id:Nat}{o o':Obj}{go:Go.Obj}{B:Nat}(hi:h id=some o)
  (b:bG j id o=some B) (g:bG j id o'=some B) (r:j.F B=0)
  (hu:fB w w' B go) (i:fA j w' id o') :
  HL j w' jl ls (h.set id (some o'))/\bC j w (Own j h jl) j w' (Own j (h.set id (some o')) jl):=by
 have hle:=hu.le (j:=j) r;have k:∀jl x,Own j (h.set id (some o')) jl x↔Own j h jl x:=by
  intro jl x;constructor
  ·rintro (hm|⟨n,q,hn,e⟩)
   ·exact .inl hm
   ·by_cases c:n=id
    ·subst c; rw [ag.cn] at hn; simp only [Option.some.injEq] at hn; subst hn;rw [g] at e; exact .inr ⟨_,o,hi,by rw [b]; exact e⟩
    ·rw [ag.bV h _ c] at hn; exact .inr ⟨n,q,hn,e⟩
  ·rintro (hm|⟨n,q,hn,e⟩)
   ·exact .inl hm
   ·by_cases c:n=id
    ·subst c; rw [hi] at hn; simp only [Option.some.injEq] at hn; subst hn;rw [b] at e; exact .inr ⟨_,o',ag.cn _ _ _,by rw [g]; exact e⟩
    ·exact .inr ⟨n,q,by rw [ag.bV h _ c]; exact hn,e⟩
 have s:∀n q x,h n=some q->n≠id->bG j n q=some x->x≠B:=fun n q x hn t e c =>
  t (hl.1.inj n q id o x hn hi e (c▸b))
 have u:∀x,x∈jl->x≠B:=fun x hx c=>hl.2.apart x hx (.inr ⟨id,o,hi,c▸b⟩);refine⟨⟨⟨fun n q hn=>?_,fun l v m y x h1 z C E=>?_,fun x hx=>hl.1.fresh x (by rw [hu.size] at hx; exact hx)⟩,
  ⟨pe hl.2.each fun xs x hx h=>h.keep hle ⟨hu.other x (u x hx),rfl⟩,hl.2.nodup,fun x hx i=>hl.2.apart x hx ((k [] x).1 i)⟩⟩, ?_⟩
 ·by_cases c:n=id
  ·subst c; rw [ag.cn] at hn; simp only [Option.some.injEq] at hn; subst hn;exact⟨(hl.1.obj _ o hi).1,i⟩
  ·rw [ag.bV h _ c] at hn;have:=hl.1.obj n q hn;exact⟨this.1,(this.2.keep hle this.1 (fun x e=>⟨hu.other x (s n q x hn c e),rfl⟩) (fun _=>rfl)).1⟩
 ·have f:∀n q,(h.set id (some o')) n=some q->∃p,h n=some p/\∀x,bG j n q=some x->bG j n p=some x:=by
   intro n q hn;by_cases c:n=id
   ·subst c; rw [ag.cn] at hn; simp only [Option.some.injEq] at hn; subst hn;exact⟨o,hi,fun x e=>by rw [g] at e; rw [b]; exact e⟩
   ·rw [ag.bV h _ c] at hn; exact⟨q,hn,fun _ e=>e⟩
  obtain⟨G,g1,f1⟩:=f l v h1;obtain⟨H,g2,f2⟩:=f m y z;exact hl.1.inj l G m H x g1 g2 (f1 x C) (f2 x E)
 ·exact { toLe:=hle,size:=(by rw [hu.size]; exact Nat.le_refl _),frame:=(fun x _ hn=>⟨hu.other x (fun c=>hn (.inr ⟨id,o,hi,c▸b⟩)),rfl⟩),own:=(fun x _ h=>(k jl x).1 h),os:=hu.os,tape:=hu.tape,output:=hu.output }
theorem HL.forget {j:J}{w:World}{jl:List Nat}{ls:List (List D)}{h h':ag}(hl:HL j w jl ls h) (b:∀id o,h' id=some o->h id=some o) :
  HL j w jl ls h'/\bC j w (Own j h jl) j w (Own j h' jl):=by
 have f:∀jl x,Own j h' jl x->Own j h jl x:=by
  rintro jl x (hm|⟨n,q,hn,e⟩)
  ·exact .inl hm
  ·exact .inr ⟨n,q,b n q hn,e⟩
 exact⟨⟨⟨fun id o hi=>hl.1.obj id o (b id o hi),fun g i k l x h1 m p r=>hl.1.inj g i k l x (b _ _ h1) (b _ _ m) p r,hl.1.fresh⟩,
  ⟨hl.2.each,hl.2.nodup,fun x hx s=>hl.2.apart x hx (f [] x s)⟩⟩,(bC.refl j w _).drop (f jl)⟩
theorem HL.trim {j:J}{w:World}{jl:List Nat}{ls:List (List D)}{h:ag}(hl:HL j w jl ls h) (n:Nat) :
  HL j w (jl.take n) (ls.take n) h/\bC j w (Own j h jl) j w (Own j h (jl.take n)) :=
 ⟨⟨hl.1,⟨hl.2.each.take n,hl.2.nodup.sublist (List.take_sublist n jl),fun b f=>hl.2.apart b (List.mem_of_mem_take f)⟩⟩,
  (bC.refl j w _).drop fun _ g=>g.elim (fun x=>.inl (List.mem_of_mem_take x)) .inr⟩
def J.dQ (j:J):J:={ j with tok:=fun x=>if x=j.next then some ⟨none,0⟩ else j.tok x,next:=j.next+1 }
theorem HL.dQ {j:J}{w:World}{jl:List Nat}{ls:List (List D)}{h:ag}(hl:HL j w jl ls h) (k:Nat) (E:Option TypeId:=none) :
  HL j.dQ w jl ls (h.set j.next (some (.tok k 0 E)))/\bC j w (Own j h jl) j.dQ w (Own j.dQ (h.set j.next (some (.tok k 0 E))) jl):=by
 have hle:Le j w j.dQ w:=⟨by simp [J.dQ],fun _ _=>rfl,fun _=>Nat.le_refl _,fun _ _ _=>rfl,fun t ht=>.inl (by simp only [J.dQ]; rw [if_neg (by omega)])⟩;have hk:=hl.keep hle (fun _ _=>⟨rfl,rfl⟩) (fun id hid _=>by simp only [J.dQ]; rw [if_neg (by omega)]) hl.1.fresh;have g:∀b,bG j.dQ j.next (.tok k 0 E)≠some b:=by intro b; simp [bG,J.dQ]
 have l:∀jl x,Own j.dQ (h.set j.next (some (.tok k 0 E))) jl x->Own j.dQ h jl x:=by
  rintro jl x (hm|⟨n,q,hn,e⟩)
  ·exact .inl hm
  ·by_cases c:n=j.next
   ·subst c; rw [ag.cn] at hn; simp only [Option.some.injEq] at hn; subst hn;exact absurd e (g x)
   ·rw [ag.bV h _ c] at hn; exact .inr ⟨n,q,hn,e⟩
 refine⟨⟨⟨fun id o hi=>?_,fun m u p v x h1 f r s=>?_,hl.1.fresh⟩,⟨hk.1.2.each,hk.1.2.nodup,fun x hx i=>hk.1.2.apart x hx (l [] x i)⟩⟩,
  { (bC.refl j w (Own j h jl)) with toLe:=hle,frame:=fun _ _ _=>⟨rfl,rfl⟩,own:=fun b _ i=>(hk.2 b).1 (l jl b i) }⟩
 ·by_cases c:id=j.next
  ·subst c; rw [ag.cn] at hi; simp only [Option.some.injEq] at hi; subst hi;exact⟨by simp [J.dQ],none,by simp [J.dQ],(by intro _ _ h; cases h),fun _ _=>rfl⟩
  ·rw [ag.bV h _ c] at hi; exact hk.1.1.obj id o hi
 ·by_cases c1:m=j.next
  ·subst c1; rw [ag.cn] at h1; simp only [Option.some.injEq] at h1; subst h1;exact absurd r (g x)
  ·by_cases c2:p=j.next
   ·subst c2; rw [ag.cn] at f; simp only [Option.some.injEq] at f; subst f;exact absurd s (g x)
   ·rw [ag.bV h _ c1] at h1; rw [ag.bV h _ c2] at f;exact hk.1.1.inj m u p v x h1 f r s
def J.cD (j:J) (t:Nat) (k:Tk) (b n:Nat):J:={ j with tok:=fun x=>if x=t then some k else j.tok x,F:=fun x=>if x=b then n else j.F x }
def J.gu (j:J) (m:Nat):J:={ j with tok:=fun x=>if x=j.next then some ⟨none,m⟩ else j.tok x,next:=j.next+1 }
theorem HL.gu {j:J}{w:World}{jl:List Nat}{ls:List (List D)}{h:ag}(hl:HL j w jl ls h) (k m:Nat) :
  HL (j.gu m) w jl ls (h.set j.next (some (.tok k m)))/\bC j w (Own j h jl) (j.gu m) w (Own (j.gu m) (h.set j.next (some (.tok k m))) jl):=by
 have hle:Le j w (j.gu m) w:=⟨by simp [J.gu],fun _ _=>rfl,fun _=>Nat.le_refl _,fun _ _ _=>rfl,fun t ht=>.inl (by simp only [J.gu]; rw [if_neg (by omega)])⟩;have hk:=hl.keep hle (fun _ _=>⟨rfl,rfl⟩) (fun id hid _=>by simp only [J.gu]; rw [if_neg (by omega)]) hl.1.fresh;have g:∀b,bG (j.gu m) j.next (.tok k m)≠some b:=by intro b; simp [bG,J.gu]
 have l:∀jl x,Own (j.gu m) (h.set j.next (some (.tok k m))) jl x->Own (j.gu m) h jl x:=by
  rintro jl x (hm|⟨n,q,hn,e⟩)
  ·exact .inl hm
  ·by_cases c:n=j.next
   ·subst c; rw [ag.cn] at hn; simp only [Option.some.injEq] at hn; subst hn;exact absurd e (g x)
   ·rw [ag.bV h _ c] at hn; exact .inr ⟨n,q,hn,e⟩
 refine⟨⟨⟨fun id o hi=>?_,fun p v r y x h1 f s u=>?_,hl.1.fresh⟩,⟨hk.1.2.each,hk.1.2.nodup,fun x hx i=>hk.1.2.apart x hx (l [] x i)⟩⟩,
  { (bC.refl j w (Own j h jl)) with toLe:=hle,frame:=fun _ _ _=>⟨rfl,rfl⟩,own:=fun b _ i=>(hk.2 b).1 (l jl b i) }⟩
 ·by_cases c:id=j.next
  ·subst c; rw [ag.cn] at hi; simp only [Option.some.injEq] at hi; subst hi;exact⟨by simp [J.gu],none,by simp [J.gu],(by intro _ _ h; cases h),fun h=>by cases h⟩
  ·rw [ag.bV h _ c] at hi; exact hk.1.1.obj id o hi
 ·by_cases c1:p=j.next
  ·subst c1; rw [ag.cn] at h1; simp only [Option.some.injEq] at h1; subst h1;exact absurd s (g x)
  ·by_cases c2:r=j.next
   ·subst c2; rw [ag.cn] at f; simp only [Option.some.injEq] at f; subst f;exact absurd u (g x)
   ·rw [ag.bV h _ c1] at h1; rw [ag.bV h _ c2] at f;exact hk.1.1.inj p v r y x h1 f s u
theorem HL.grow {j:J}{w w':World}{jl:List Nat}{ls:List (List D)}{h:ag}(hl:HL j w jl ls h){t k m m':Nat}{E:Option TypeId}(ht:h t=some (.tok k m E)) (hm:m<m')
  {b cap:Nat}{cs:Array Value}{e:TypeId}(K:w'.heap[b]?=some (.cells cs e (0,0))) (O:cs.size=cap*k) (P:m'<=cap)
  (y:∀x,x≠b->x<w.heap.size->w'.heap[x]?=w.heap[x]?) (Q:w.heap.size<=w'.heap.size) (ae:w'.heap.size<=max w.heap.size (b+1))
  (l:w.heap.size<=b\/(bG j t (.tok k m E)=some b/\∀o,o<j.F b->w'.cell? ⟨b,o,none⟩=w.cell? ⟨b,o,none⟩))
  (R:w'.os=w.os) (S:w'.tape=w.tape) (U:fG w w') (W:∀T,E=some T->e=T:=by intro T h; cases h) :
  HL (j.cD t ⟨some (b,cap),m'⟩ b (m'*k)) w' jl ls (h.set t (some (.tok k m' E))) /\
   bC j w (Own j h jl) (j.cD t ⟨some (b,cap),m'⟩ b (m'*k)) w' (Own (j.cD t ⟨some (b,cap),m'⟩ b (m'*k)) (h.set t (some (.tok k m' E))) jl):=by
 obtain⟨X,dP,L,hblk,_⟩:=hl.1.obj t _ ht;have Y:j.F b<=m'*k:=by
  rcases l with hc|⟨hc,_⟩
  ·rw [hl.1.fresh b hc]; exact Nat.zero_le _
  ·simp only [bG,L,Option.bind_some] at hc;cases dP with
   | none=>simp at hc
   | some Z =>
    obtain⟨aa,ab⟩:=Z;simp only [Option.map_some,Option.some.injEq] at hc;subst hc;obtain⟨_,_,_,_,ad,_⟩:=hblk _ _ rfl;rw [ad]; exact Nat.mul_le_mul_right _ (Nat.le_of_lt hm)
 have hle:Le j w (j.cD t ⟨some (b,cap),m'⟩ b (m'*k)) w':=by
  refine⟨Nat.le_refl _,fun _ _=>rfl,fun x=>?_,fun x o i=>?_,fun x hx=>?_⟩
  ·simp only [J.cD]; split
   ·rename_i c; rw [c]; exact Y
   ·exact Nat.le_refl _
  ·by_cases c:x=b
   ·subst c;rcases l with hc|⟨_,hc⟩
    ·rw [hl.1.fresh x hc] at i; omega
    ·exact hc o i
   ·refine ph (y x c ?_);rcases Nat.lt_or_ge x w.heap.size with h1|h1
    ·exact h1
    ·rw [hl.1.fresh x h1] at i; omega
  ·by_cases c:x=t
   ·subst c; exact .inr ⟨_,⟨some (b,cap),m'⟩,L,by simp [J.cD],hm⟩
   ·exact .inl (by simp [J.cD,c])
 -- the others' blocks are not b
 have z:∀n q x,h n=some q->n≠t->bG j n q=some x->x≠b:=fun n q x hn g hx c=>by
  subst c;rcases l with hc|⟨hc,_⟩
  ·have:=Own.lt hl (.inr ⟨n,q,hn,hx⟩); omega
  ·exact g (hl.1.inj n q t _ x hn ht hx hc)
 have H:∀x,x∈jl->x≠b:=fun x hx c=>by
  subst c;rcases l with hc|⟨hc,_⟩
  ·have:=Own.lt hl (.inl hx); omega
  ·exact hl.2.apart x hx (.inr ⟨t,_,ht,hc⟩)
 have B:∀x,x≠b->(j.cD t ⟨some (b,cap),m'⟩ b (m'*k)).F x=j.F x:=fun x hx=>by simp [J.cD,hx]
 have p:∀n q,h n=some q->n≠t->fA (j.cD t ⟨some (b,cap),m'⟩ b (m'*k)) w' n q/\bG (j.cD t ⟨some (b,cap),m'⟩ b (m'*k)) n q=bG j n q:=fun n q hn g =>
  (hl.1.obj n q hn).2.keep hle (hl.1.obj n q hn).1 (fun x hx=>⟨y x (z n q x hn g hx) (Own.lt hl (.inr ⟨n,q,hn,hx⟩)),B x (z n q x hn g hx)⟩)
   (fun _=>by simp [J.cD,g])
 have I:bG (j.cD t ⟨some (b,cap),m'⟩ b (m'*k)) t (.tok k m' E)=some b:=by simp [bG,J.cD]
 have M:∀jl x,Own (j.cD t ⟨some (b,cap),m'⟩ b (m'*k)) (h.set t (some (.tok k m' E))) jl x->x=b\/Own j h jl x:=by
  rintro jl x (hx|⟨n,q,hn,hx⟩)
  ·exact .inr (.inl hx)
  ·by_cases c:n=t
   ·subst c; rw [ag.cn] at hn; simp only [Option.some.injEq] at hn; subst hn;rw [I] at hx; simp only [Option.some.injEq] at hx; exact .inl hx.symm
   ·rw [ag.bV h _ c] at hn;exact .inr (.inr ⟨n,q,hn,(p n q hn c).2▸hx⟩)
 refine⟨⟨⟨fun n q hn=>?_,fun r C s G x h1 f u v=>?_,fun x hx=>?_⟩,
  ⟨pe hl.2.each fun xs x hx h=>h.keep hle ⟨y x (H x hx) (Own.lt hl (.inl hx)),B x (H x hx)⟩,hl.2.nodup,fun x hx i=>?_⟩⟩, ?_⟩
 ·by_cases c:n=t
  ·subst c; rw [ag.cn] at hn; simp only [Option.some.injEq] at hn; subst hn;refine⟨X,some (b,cap),by simp [J.cD],fun aa ab N=>?_,fun _ h=>by cases h⟩;simp only [Option.some.injEq,Prod.mk.injEq] at N;obtain⟨rfl,rfl⟩:=N;exact⟨cs,e,K,O,by simp [J.cD],P,W⟩
  ·rw [ag.bV h _ c] at hn;exact⟨(hl.1.obj n q hn).1,(p n q hn c).1⟩
 ·by_cases c1:r=t<;>by_cases c2:s=t
  ·omega
  ·subst c1; rw [ag.cn] at h1; simp only [Option.some.injEq] at h1; subst h1;rw [ag.bV h _ c2] at f;rw [I] at u; simp only [Option.some.injEq] at u;exact absurd u.symm (z s G x f c2 ((p s G f c2).2▸v))
  ·subst c2; rw [ag.cn] at f; simp only [Option.some.injEq] at f; subst f;rw [ag.bV h _ c1] at h1;rw [I] at v; simp only [Option.some.injEq] at v;exact absurd v.symm (z r C x h1 c1 ((p r C h1 c1).2▸u))
  ·rw [ag.bV h _ c1] at h1; rw [ag.bV h _ c2] at f;exact hl.1.inj r C s G x h1 f ((p r C h1 c1).2▸u) ((p s G f c2).2▸v)
 ·have af:=fN K;rw [B x (by omega)];exact hl.1.fresh x (by omega)
 ·rcases M [] x i with c|c
  ·exact H x hx c
  ·exact hl.2.apart x hx c
 ·refine { toLe:=hle,size:=Q,frame:=fun x hx hn=>?_,own:=fun x hx i=>?_,os:=R,tape:=S,output:=U }
  ·have g:x≠b:=fun c=>by
    subst c;rcases l with hc|⟨hc,_⟩
    ·omega
    ·exact hn (.inr ⟨t,_,ht,hc⟩)
   exact⟨y x g hx,B x g⟩
  ·rcases M jl x i with c|c
   ·subst c;rcases l with hc|⟨hc,_⟩
    ·omega
    ·exact .inr ⟨t,_,ht,hc⟩
   ·exact c
theorem HL.LX {j:J}{w:World}{jl:List Nat}{ls:List (List D)}{h:ag}(hl:HL j w jl ls h){t k:Nat}(ht:h t=some (.tok k 0)) :
  HL (j.cD t ⟨some (w.heap.size,0),1⟩ w.heap.size 0) (w.alloc (.map #[] 0)) jl ls (h.set t (some (.map []))) /\
   bC j w (Own j h jl) (j.cD t ⟨some (w.heap.size,0),1⟩ w.heap.size 0) (w.alloc (.map #[] 0)) (Own (j.cD t ⟨some (w.heap.size,0),1⟩ w.heap.size 0) (h.set t (some (.map []))) jl) /\
   aZ (j.cD t ⟨some (w.heap.size,0),1⟩ w.heap.size 0) (w.alloc (.map #[] 0)) jl (.a (.d (.map t))) (.map (some w.heap.size)):=by
 obtain⟨G,dP,M,hblk,_⟩:=hl.1.obj t _ ht;have H:j.F w.heap.size=0:=hl.1.fresh _ (Nat.le_refl _);have r:∀x,x<w.heap.size->(w.alloc (.map #[] 0)).heap[x]?=w.heap[x]?:=fun x hx=>pg hx;generalize i:j.cD t ⟨some (w.heap.size,0),1⟩ w.heap.size 0=j';have f:∀x,j'.F x=j.F x:=fun x=>by
  subst i; simp only [J.cD]; split
  ·rename_i c; rw [c,H]
  ·rfl
 have B:j'.next=j.next:=by subst i; rfl
 have s:j'.tok t=some ⟨some (w.heap.size,0),1⟩:=by subst i; simp [J.cD]
 have I:∀x,x≠t->j'.tok x=j.tok x:=fun x hx=>by subst i; simp [J.cD,hx]
 have hle:Le j w j' (w.alloc (.map #[] 0)):=by
  refine⟨by rw [B]; exact Nat.le_refl _,fun _ _=>by subst i; rfl,fun x=>by rw [f]; exact Nat.le_refl _,fun x o l=>?_,fun x hx=>?_⟩
  ·refine ph (r x ?_);rcases Nat.lt_or_ge x w.heap.size with h1|h1
   ·exact h1
   ·rw [hl.1.fresh x h1] at l; omega
  ·by_cases c:x=t
   ·subst c; exact .inr ⟨_,_,M,s,Nat.zero_lt_one⟩
   ·exact .inl (I x c)
 have C:∀n q x,h n=some q->bG j n q=some x->x<w.heap.size:=fun n q x hn hx=>Own.lt hl (.inr ⟨n,q,hn,hx⟩);have K:∀x,x∈jl->x<w.heap.size:=fun x hx=>Own.lt hl (.inl hx);have g:∀n q,h n=some q->n≠t->fA j' (w.alloc (.map #[] 0)) n q/\bG j' n q=bG j n q:=fun n q hn N =>
  (hl.1.obj n q hn).2.keep hle (hl.1.obj n q hn).1 (fun x hx=>⟨r x (C n q x hn hx),f x⟩) (fun _=>I n N)
 have E:bG j' t (.map [])=some w.heap.size:=by simp [bG,s]
 have L:∀jl x,Own j' (h.set t (some (.map []))) jl x->x=w.heap.size\/Own j h jl x:=by
  rintro jl x (hx|⟨n,q,hn,hx⟩)
  ·exact .inr (.inl hx)
  ·by_cases c:n=t
   ·subst c; rw [ag.cn] at hn; simp only [Option.some.injEq] at hn; subst hn;rw [E] at hx; simp only [Option.some.injEq] at hx; exact .inl hx.symm
   ·rw [ag.bV h _ c] at hn;exact .inr (.inr ⟨n,q,hn,(g n q hn c).2▸hx⟩)
 refine⟨⟨⟨fun n q hn=>?_,fun m u p v x h1 b y z=>?_,fun x hx=>?_⟩,
  ⟨pe hl.2.each fun xs x hx h=>h.keep hle ⟨r x (K x hx),f x⟩,hl.2.nodup,fun x hx l=>?_⟩⟩, ?_, ?_⟩
 ·rw [B];by_cases c:n=t
  ·subst c; rw [ag.cn] at hn; simp only [Option.some.injEq] at hn; subst hn;exact⟨G,w.heap.size,0,[],0,s,heap_alloc_new w _,.nil,by rw [f]; exact H,List.nodup_nil,(fun _ h=>by cases h),List.nodup_nil⟩
  ·rw [ag.bV h _ c] at hn;exact⟨(hl.1.obj n q hn).1,(g n q hn c).1⟩
 ·by_cases c1:m=t<;>by_cases c2:p=t
  ·omega
  ·subst c1; rw [ag.cn] at h1; simp only [Option.some.injEq] at h1; subst h1;rw [ag.bV h _ c2] at b;rw [E] at y; simp only [Option.some.injEq] at y;have:=C p v x b ((g p v b c2).2▸z); omega
  ·subst c2; rw [ag.cn] at b; simp only [Option.some.injEq] at b; subst b;rw [ag.bV h _ c1] at h1;rw [E] at z; simp only [Option.some.injEq] at z;have:=C m u x h1 ((g m u h1 c1).2▸y); omega
  ·rw [ag.bV h _ c1] at h1; rw [ag.bV h _ c2] at b;exact hl.1.inj m u p v x h1 b ((g m u h1 c1).2▸y) ((g p v b c2).2▸z)
 ·rw [f];simp only [World.size_alloc] at hx;exact hl.1.fresh x (by omega)
 ·rcases L [] x l with c|c
  ·have:=K x hx; omega
  ·exact hl.2.apart x hx c
 ·refine { toLe:=hle,size:=(by simp),frame:=fun x hx hn=>⟨r x hx,f x⟩,own:=fun x hx l=>?_,os:=rfl,tape:=rfl,output:=fG.rfl };rcases L jl x l with c|c
  ·omega
  ·exact c
 ·show aA j' (w.alloc (.map #[] 0)) (.map t) (.map (some w.heap.size));refine .map t w.heap.size (by rw [B]; exact G) fun tk hk=>?_;rw [s] at hk;obtain rfl:=Option.some.inj hk;exact⟨Nat.le_refl _,fun _=>⟨0,rfl⟩⟩
end Go.Ab
/-
 The abstract state of a running function,one operation,a region in the order of its text.
-/
namespace Go.Ab
open Go Go.RowKit
variable {an:bf}
class eN where
 ds:List Deferred
instance (priority:=low) eN.nothing:eN:=⟨[]⟩
variable {gv:eN}
abbrev Ts:=List (Nat×V)
def get:Ts->Nat->V
 | [],_=>.any
 | (k,v)::r,n=>bif Nat.beq k n then v else get r n
theorem fQ (k:Nat) (v:V) (r:Ts):get ((k,v)::r) k=v:=by simp [get]
theorem fe {k n:Nat}(v:V) (r:Ts) (h:k≠n):get ((k,v)::r) n=get r n:=by
 have:Nat.beq k n=false:=Bool.eq_false_iff.2 fun e=>h (Nat.eq_of_beq_eq_true e);simp [get,this]
structure St where
 n:Nat
 ts:Ts
 ls:List (List D)
 h:ag
def qG:Value->Option D
 | .bool b=>some (.bool b)
 | .int k n=>some (.int k n)
 | .string s=>bif Nat.ble s.data.toList.length eH then some (.str s.data.toList) else none
 | .slice none 0 0=>some (.slice 0 none true [])
 | .pointer none=>some .eC
 | .map none=>some .jB
 | .nilFunc=>some .nilFunc
 | .nilIface=>some .nilIface
 | _=>none
def Ep (v:Value):V :=
 match qG v with
 | some x=>.a (.d x)
 | none=>.any
def ev (ts:Ts):Operand->V
 | .tmp t=>get ts t
 | .const v=>Ep v
 | .global _=>.any
 | .func f=>.a (.d (.func f []))
theorem yH (j:J) (w:World) (v:Value) (x:D) (h:qG v=some x):aA j w x v:=by
 unfold qG at h
 split at h<;>simp at h
 ·subst h; exact .bool _
 ·subst h; exact .int _ _
 ·rename_i s
  cases c:Nat.ble s.size eH with
  | false=>rw [c] at h; simp at h
  | true =>
   rw [c] at h; simp at h;subst h;have:=aA.str (j:=j) (w:=w) s.data.toList (by simpa using Nat.le_of_ble_eq_true c)
   simpa using this
 ·subst h; exact .eU _ _ (by simp)
 ·subst h; exact .eC
 ·subst h; exact .jB
 ·subst h; exact .nilFunc
 ·subst h; exact .nilIface
theorem nC {j:J}{w:World}{jl:List Nat}{ts:Ts}{a:Act}(h:∀k,aZ j w jl (get ts k) (a.tmps.getD k undef)) (x:Operand):aZ j w jl (ev ts x) (a.eval x):=by
 cases x with
 | tmp t=>exact h t
 | const v =>
  simp only [ev,Ep,Act.eval]
  split
  ·rename_i x hx; exact yH j w v x hx
  ·trivial
 | global g=>trivial
 | func f=>exact aA.func f [] [] rfl (by simp)
structure dD [eN] (j:J) (w:World) (jl:List Nat) (σ:St) (a:Act):Prop where
 defers:a.defers=eN.ds
 size:a.tmps.size=σ.n
 tmps:∀k,aZ j w jl (get σ.ts k) (a.tmps.getD k undef)
 hl:HL j w jl σ.ls σ.h
structure Fx where
 rl:Bool:=false
 wl:Bool:=false
 rh:Bool:=false
 wh:Bool:=false
 nu:Bool:=false
def dZ [bf] (P:Program) (o:Oper) (ts:Ts) (ls:List (List D)) (h:ag) (R:V->List (List D)->ag->Prop):Prop :=
 ∀(j:J) (w:World) (jl:List Nat) (a:Act),HL j w jl ls h->(∀x,x∈o.op.operands->aZ j w jl (ev ts x) (a.eval x)) ->
  ∀(K:Act->World->Prop) (Q:Exit->Act->World->Prop),
   (∀v aH h' cv j' w' b,R v aH h'->aZ j' w' b v cv->HL j' w' b aH h'->Ext jl b->bC j w (Own j h jl) j' w' (Own j' h' b)->K (a.put o.dst cv) w')->o.wp P a w K Q
def aq [bf] (P:Program) (o:Oper) (ts:Ts) (ls:List (List D)) (h:ag) (fx:Fx) (v:V) (aH:List (List D)) (h':ag):Prop :=
 ∀L H,((fx.rl||fx.wl)=true->L=ls)->((fx.rh||fx.wh)=true->H=h) ->
  dZ P o ts L H fun u l k=>u=v/\l=(bif fx.wl then aH else L)/\k=(bif fx.wh then h' else H)
theorem aq.step {P:Program}{o:Oper}{ts:Ts}{ls aH:List (List D)}{h h':ag}{fx:Fx}{v:V}(hc:aq P o ts ls h fx v aH h') :
  dZ P o ts ls h fun u l k=>u=v/\l=(bif fx.wl then aH else ls)/\k=(bif fx.wh then h' else h) :=
 hc ls h (fun _=>rfl) (fun _=>rfl)
theorem dZ.mono {P:Program}{o:Oper}{ts:Ts}{ls:List (List D)}{h:ag}{R b:V->List (List D)->ag->Prop}(f:dZ P o ts ls h R) (hr:∀v l k,R v l k->b v l k):dZ P o ts ls h b :=
 fun j w jl a hl g K Q hk=>f j w jl a hl g K Q fun v aH h' cv j' w' i r=>hk v aH h' cv j' w' i (hr _ _ _ r)
def gZ (dst:Option Tmp) (v:V) (ts:Ts):Ts :=
 match dst with
 | some d=>(d,v)::ts
 | none=>ts
def iy (dst:Option Tmp) (n:Nat):Bool :=
 match dst with
 | some d=>Nat.blt d n
 | none=>true
theorem LY {j:J}{w:World}{jl:List Nat}{ts:Ts}{a:Act}{n:Nat}(b:a.tmps.size=n) (h:∀k,aZ j w jl (get ts k) (a.tmps.getD k undef)){dst:Option Tmp}(f:iy dst n=true)
  {v:V}{cv:Value}(hv:aZ j w jl v cv):∀k,aZ j w jl (get (gZ dst v ts) k) ((a.put dst cv).tmps.getD k undef):=by
 intro k;cases dst with
 | none=>exact h k
 | some d =>
  simp only [gZ,Act.put];have bh:d<a.tmps.size:=by
   have:Nat.blt d n=true:=f;rw [b]; simpa [Nat.blt_eq] using this
  by_cases e:d=k
  ·subst e;rw [fQ]
   simpa [Array.getD_eq_getD_getElem?,bh] using hv
  ·rw [fe _ _ e];have:=h k
   simpa [Array.getD_eq_getD_getElem?,Array.getElem?_setIfInBounds,e] using this
theorem fR (a:Act) (dst:Option Tmp) (v:Value):(a.put dst v).tmps.size=a.tmps.size:=by cases dst<;>simp [Act.put]
theorem put_defers (a:Act) (dst:Option Tmp) (v:Value):(a.put dst v).defers=a.defers:=by cases dst<;>rfl
theorem dD.put {j j':J}{w w':World}{jl b:List Nat}{σ:St}{a:Act}(h:dD j w jl σ a) (hle:Le j w j' w') (hx:Ext jl b){dst:Option Tmp}(f:iy dst σ.n=true)
  {v:V}{cv:Value}(hv:aZ j' w' b v cv){aH:List (List D)}{h':ag}(hl:HL j' w' b aH h'):dD j' w' b ⟨σ.n,gZ dst v σ.ts,aH,h'⟩ (a.put dst cv) :=
 ⟨by rw [put_defers]; exact h.defers,by rw [fR]; exact h.size,LY h.size (fun k=>(h.tmps k).mono hle hx) f hv,hl⟩
def guardOf (ops:Array Oper) (o:Oper):Option (Nat×Bool) :=
 match o.guard with
 | none=>none
 | some (g,want)=>match (ops[g]?).bind (·.dst) with
  | some d=>some (d,want)
  | none=>none
theorem u_ {ops:Array Oper}{o:Oper}{tmps:Array Value}(h:o.guard=none):Region.wanted o (yielded ops tmps)=true:=by simp [Region.wanted,h]
theorem yI {j:J}{w:World}{jl:List Nat}{ts:Ts}{a:Act}{ops:Array Oper}{o:Oper}{d:Nat}{want b:Bool}(f:guardOf ops o=some (d,want))
  (i:get ts d=.a (.d (.bool b))) (h:aZ j w jl (get ts d) (a.tmps.getD d undef)):Region.wanted o (yielded ops a.tmps)=(b==want):=by
 unfold guardOf at f;rw [i] at h;have hv:a.tmps.getD d undef=.bool b:=by
  have h':aA j w (.bool b) (a.tmps.getD d undef):=h;generalize a.tmps.getD d undef=x at h';cases h'; rfl
 have k:a.tmps[d]?=some (.bool b):=by
  rw [Array.getD_eq_getD_getElem?] at hv;cases e:a.tmps[d]? with
  | none=>rw [e] at hv; simp [undef] at hv
  | some x=>rw [e] at hv; simp at hv; rw [hv]
 split at f
 ·simp at f
 ·rename_i g l m
  split at f
  ·rename_i q p
   simp only [Option.some.injEq,Prod.mk.injEq] at f;obtain⟨rfl,rfl⟩:=f;simp only [Region.wanted,m,yielded,p,Option.bind_some,k];cases b<;>cases l<;>rfl
  ·simp at f
def aS [bf] [eN] (P:Program) (ops:Array Oper) (l:List Oper) (Q:St->Prop) (σ:St):Prop :=
 ∀(j:J) (w:World) (jl:List Nat) (a:Act),dD j w jl σ a->∀(f:Exit->Act->World->Prop),
  (∀b j' w' g i,Q b->dD j' w' g b i->bC j w (Own j σ.h jl) j' w' (Own j' b.h g)->f .normal i w')->wpList P ops f l a w
section
variable {P:Program}{ops:Array Oper}{rest:List Oper}{o:Oper}{Q:St->Prop}{n:Nat}{ts:Ts}{ls:List (List D)}{h:ag}
theorem aS.nil {σ:St}(hq:Q σ):aS P ops [] Q σ:=fun _ _ _ _ b _ hk=>hk _ _ _ _ _ hq b (bC.refl _ _ _)
theorem aS.run {R:V->List (List D)->ag->Prop}(m:dZ P o ts ls h R) (p:iy o.dst n=true)
  (hr:∀v aH h',R v aH h'->aS P ops rest Q ⟨n,gZ o.dst v ts,aH,h'⟩)
  {j:J}{w:World}{jl:List Nat}{a:Act}(i:dD j w jl ⟨n,ts,ls,h⟩ a) (q:Region.wanted o (yielded ops a.tmps)=true) (f:Exit->Act->World->Prop)
  (hk:∀b j' w' g k,Q b->dD j' w' g b k->bC j w (Own j h jl) j' w' (Own j' b.h g)->f .normal k w'):wpList P ops f (o::rest) a w:=by
 refine wpList_step fun K s=>?_;rw [if_pos q];refine m j w jl a i.hl (fun x _=>nC i.tmps x) K f fun v aH h' cv j' w' g r hv hl hx l=>s _ _ ?_;exact hr v aH h' r j' w' g _ (i.put l.toLe hx p hv hl) f fun b t u y a2 hq z B=>hk b t u y a2 hq z (l.trans B)
theorem aS.Er {R:V->List (List D)->ag->Prop}(b:dZ P o ts ls h R) (f:o.guard=none) (g:iy o.dst n=true)
  (hr:∀v aH h',R v aH h'->aS P ops rest Q ⟨n,gZ o.dst v ts,aH,h'⟩):aS P ops (o::rest) Q ⟨n,ts,ls,h⟩ :=
 fun _ _ _ _ i j hk=>aS.run b g hr i (u_ f) j hk
theorem aS.step {fx:Fx}{v:V}{aH:List (List D)}{h':ag}(b:aq P o ts ls h fx v aH h') (f:o.guard=none) (g:iy o.dst n=true)
  (hr:aS P ops rest Q ⟨n,gZ o.dst v ts,(bif fx.wl then aH else ls),(bif fx.wh then h' else h)⟩):aS P ops (o::rest) Q ⟨n,ts,ls,h⟩ :=
 aS.Er b.step f g fun _ _ _ ⟨i,j,k⟩=>by rw [i,j,k]; exact hr
end
end Go.Ab
/-
 A region that draws its order: one walk in the order of the text serves every order,where what is not ordered does not meet.
-/
namespace Go.Ab
open Go Go.RowKit
variable {an:bf}
def mb [bf] (P:Program) (ops:Array Oper) (n:Nat) (o:Oper) (ts:Ts) (ls:List (List D)) (h:ag) (fx:Fx) (v:V) (aH:List (List D)) (h':ag):Prop :=
 iy o.dst n=true/\∀L H,((fx.rl||fx.wl)=true->L=ls)->((fx.rh||fx.wh)=true->H=h) ->
  ∀(j:J) (w:World) (jl:List Nat) (a:Act),HL j w jl L H->(∀t,t∈o.looksAt ops->aZ j w jl (get ts t) (a.tmps.getD t undef)) ->
   ∀(K:Act->World->Prop) (Q:Exit->Act->World->Prop),
    (∀cv j' w' b,aZ j' w' b v cv->HL j' w' b (bif fx.wl then aH else L) (bif fx.wh then h' else H)->Ext jl b ->
     bC j w (Own j H jl) j' w' (Own j' (bif fx.wh then h' else H) b)->K (a.put o.dst cv) w') ->
    if Region.wanted o (yielded ops a.tmps) then o.wp P a w K Q else K (a.put o.dst undef) w
theorem Es {j:J}{w:World}{jl:List Nat}{ts:Ts}{a:Act}{ops:Array Oper}{o:Oper}(h:∀t,t∈o.looksAt ops->aZ j w jl (get ts t) (a.tmps.getD t undef)) :
  ∀x,x∈o.op.operands->aZ j w jl (ev ts x) (a.eval x):=by
 intro x hx;cases x with
 | tmp t=>exact h t (by simp only [Oper.looksAt,List.mem_append,List.mem_filterMap]; exact .inl ⟨.tmp t,by simpa using hx,rfl⟩)
 | const v=>exact nC (ts:=[]) (a:=⟨#[],[]⟩) (fun _=>trivial) (.const v)
 | global g=>trivial
 | func f=>exact nC (ts:=[]) (a:=⟨#[],[]⟩) (fun _=>trivial) (.func f)
theorem LZ {ops:Array Oper}{o:Oper}{d:Nat}{want:Bool}(b:guardOf ops o=some (d,want)):d∈o.looksAt ops:=by
 unfold guardOf at b
 split at b
 ·simp at b
 ·rename_i g j f
  split at b
  ·rename_i k i
   simp only [Option.some.injEq,Prod.mk.injEq] at b;obtain⟨rfl,rfl⟩:=b;simp only [Oper.looksAt,f,List.mem_append]
   right
   rw [i]; simp
  ·simp at b
section
variable {P:Program}{ops:Array Oper}{o:Oper}{n:Nat}{ts:Ts}{ls aH:List (List D)}{h h':ag}{fx:Fx}{v:V}
theorem mb.plain (b:aq P o ts ls h fx v aH h') (f:o.guard=none) (g:iy o.dst n=true):mb P ops n o ts ls h fx v aH h':=by
 refine⟨g,fun L H i hH j w jl a hl k K Q hk=>?_⟩;rw [if_pos (u_ f)];exact b L H i hH j w jl a hl (Es k) K Q fun _ _ _ cv j' w' l ⟨m,p,q⟩=>by subst m p q; exact hk cv j' w' l
end
def pn (o:Oper) (acc:List Nat):Nat:=o.after.toList.foldl (fun s e=>bif Region.binds .any e then s ||| (2 ^ e.on) ||| acc.getD e.on 0 else s) 0
def i_:List Oper->List Nat->List Nat
 | [],acc=>acc
 | o::r,acc=>i_ r (acc++[pn o acc])
theorem Et:∀(l:List Oper) (acc:List Nat),(i_ l acc).length=acc.length+l.length/\(i_ l acc).take acc.length=acc /\
  ∀k o,l[k]?=some o->(i_ l acc)[acc.length+k]?=some (pn o ((i_ l acc).take (acc.length+k)))
 | [],acc=>by simp [i_]
 | o::r,acc=>by
  obtain⟨h1,b,f⟩:=Et r (acc++[pn o acc]);simp only [List.length_append,List.length_cons,List.length_nil] at h1 b f;have g:(i_ r (acc++[pn o acc])).take acc.length=acc:=by
   have:=congrArg (List.take acc.length) b;rw [List.take_take] at this
   simpa using this
  refine⟨by simp only [i_]; rw [h1]; simp; omega,g,fun k o' hk=>?_⟩;simp only [i_];cases k with
  | zero =>
   simp only [List.getElem?_cons_zero,Option.some.injEq] at hk;subst hk;rw [Nat.add_zero,g];have i:((i_ r (acc++[pn o acc])).take (acc.length+(0+1)))[acc.length]?=(acc++[pn o acc])[acc.length]?:=by rw [b]
   rw [List.getElem?_take_of_lt (by omega)] at i;rw [i]; simp
  | succ k =>
   simp only [List.getElem?_cons_succ] at hk;have:=f k o' hk;have e:acc.length+(0+1)+k=acc.length+(k+1):=by omega
   rw [e] at this;exact this
theorem Eu (acc:List Nat) (p:Nat):∀(es:List Edge) (s:Nat),(es.foldl (fun s e=>bif Region.binds .any e then s ||| (2 ^ e.on) ||| acc.getD e.on 0 else s) s).testBit p=true ->
  s.testBit p=true\/∃e,e∈es/\Region.binds .any e=true/\(p=e.on\/(acc.getD e.on 0).testBit p=true)
 | [],s,h=>.inl h
 | e::es,s,h=>by
  simp only [List.foldl_cons] at h;rcases Eu acc p es _ h with h1|⟨f,h1,g,i⟩
  ·cases b:Region.binds .any e with
   | false=>rw [b] at h1; exact .inl h1
   | true =>
    rw [b] at h1;simp only [cond_true,Nat.testBit_or,Bool.or_eq_true] at h1;rcases h1 with (h1|h1)|h1
    ·exact .inl h1
    ·exact .inr ⟨e,by simp,b,.inl (by rw [Nat.testBit_two_pow] at h1; exact(of_decide_eq_true h1).symm)⟩
    ·exact .inr ⟨e,by simp,b,.inr h1⟩
  ·exact .inr ⟨f,by simp [h1],g,i⟩
def Fx.iz (x y:Fx):Bool:=(x.wl&&(y.rl||y.wl))||(y.wl&&x.rl)||(x.wh&&(y.rh||y.wh))||(y.wh&&x.rh)
def Fx.plain (x:Fx):Fx:={ x with nu:=false }
def Ev (T:List Nat) (i k:Nat):Bool:=T.all fun m=>!m.testBit k||m.testBit i
def Ew (ops:Array Oper) (T:List Nat) (l:List (Oper×Fx)):Bool :=
 (List.range l.length).all fun k=>match l[k]? with
  | none=>true
  | some (ok,b)=>ok.after.toList.all (fun e=>!Region.binds .any e||Nat.blt e.on k) &&
   (List.range k).all fun i=>match l[i]? with
    | none=>true
    | some (oi,f)=>(T.getD k 0).testBit i||(oi.apart ops ok&&!f.iz b)||(b.nu&&oi.apart ops ok&&Ev T i k)
def va (ops:Array Oper) (b:List Fx):Bool:=Ew ops (i_ ops.toList []) (ops.toList.zip b)
def ord (ops:Array Oper) (i k:Nat):Prop:=((i_ ops.toList []).getD k 0).testBit i=true
def qH (P:Program) (o:Oper) (v:V) (ls aH:List (List D)):Prop :=
 ∃(z:List D) (d:Nat),o.guard=none/\o.dst=some d/\v=.dI ls.length 0/\aH=ls++[z] /\
  ∃(cs:List Value) (e:TypeId),(∀j w,aR (aA j w) z cs) /\
   ∀(a:Act) (w:World) (K:Act->World->Prop) (Q:Exit->Act->World->Prop),K (a.put o.dst (.pointer (some ⟨w.heap.size,0,none⟩))) (w.alloc (.cells cs.toArray e))->o.wp P a w K Q
def yJ [bf] (P:Program) (ops:Array Oper) (n:Nat) (S:Nat->St) (fx:Nat->Fx) (v:Nat->V) (k:Nat) (o:Oper):Prop :=
 mb P ops n o (S k).ts (S k).ls (S k).h (fx k) (v k) (S (k+1)).ls (S (k+1)).h/\(S (k+1)).n=(S k).n/\(S (k+1)).ts=gZ o.dst (v k) (S k).ts /\
  ((fx k).wl=false->(S (k+1)).ls=(S k).ls)/\((fx k).wh=false->(S (k+1)).h=(S k).h) /\
  ((fx k).nu=true->(fx k).wl=true/\(fx k).wh=false/\qH P o (v k) (S k).ls (S (k+1)).ls)
def au [bf] (P:Program) (ops:Array Oper) (n:Nat) (l:List Oper) (done:List Fx) (Q:St->Prop) (σ:St):Prop :=
 ∃(S:Nat->St) (fx:Nat->Fx) (v:Nat->V),S 0=σ/\(∀k o,l[k]?=some o->yJ P ops n S fx v k o) /\
  va ops (done.reverse++(List.range l.length).map fx)=true/\Q (S l.length)
theorem au.nil {P:Program}{ops:Array Oper}{n:Nat}{done:List Fx}{Q:St->Prop}{σ:St}(hc:va ops done.reverse=true) (hq:Q σ):au P ops n [] done Q σ :=
 ⟨fun _=>σ,fun _=>{},fun _=>.any,rfl,by simp,by simpa using hc,hq⟩
theorem au.Ex {P:Program}{ops:Array Oper}{o:Oper}{rest:List Oper}{n:Nat}{done:List Fx}{Q:St->Prop}{ts:Ts}{ls aH:List (List D)}{h h':ag}{fx:Fx}{v:V}
  (hc:mb P ops n o ts ls h fx v aH h') (i:fx.nu=true->fx.wl=true/\fx.wh=false/\qH P o v ls aH)
  (hr:au P ops n rest (fx::done) Q ⟨n,gZ o.dst v ts,(bif fx.wl then aH else ls),(bif fx.wh then h' else h)⟩) :
  au P ops n (o::rest) done Q ⟨n,ts,ls,h⟩:=by
 obtain⟨S,f,u,h0,h1,l,m⟩:=hr;refine⟨fun k=>match k with|0=>⟨n,ts,ls,h⟩|k+1=>S k,fun k=>match k with|0=>fx|k+1=>f k,fun k=>match k with|0=>v|k+1=>u k,rfl, ?_, ?_,m⟩
 ·intro k o' hk;cases k with
  | zero =>
   simp only [List.getElem?_cons_zero,Option.some.injEq] at hk;subst hk;unfold yJ;dsimp only;rw [h0];refine⟨⟨hc.1,fun L H p hH j w jl a hl q K Q hk=>?_⟩,rfl,rfl,fun e=>by simp [e],fun e=>by simp [e],fun e=>?_⟩
   ·have:=hc.2 L H p hH j w jl a hl q K Q
    revert hk
    cases b:fx.wl<;>cases g:fx.wh<;>simp only [b,g,cond_true,cond_false] at this ⊢<;>exact this
   ·obtain⟨b,g,r⟩:=i e;exact⟨b,g,by rw [b]; exact r⟩
  | succ k =>
   simp only [List.getElem?_cons_succ] at hk;exact h1 k o' hk
 ·rw [List.length_cons,List.range_succ_eq_map,List.map_cons,List.map_map]
  simpa [Function.comp_def] using l
theorem au.cons {P:Program}{ops:Array Oper}{o:Oper}{rest:List Oper}{n:Nat}{done:List Fx}{Q:St->Prop}{ts:Ts}{ls aH:List (List D)}{h h':ag}{fx:Fx}{v:V}
  (hc:mb P ops n o ts ls h fx v aH h') (hr:au P ops n rest (fx.plain::done) Q ⟨n,gZ o.dst v ts,(bif fx.wl then aH else ls),(bif fx.wh then h' else h)⟩) :
  au P ops n (o::rest) done Q ⟨n,ts,ls,h⟩ :=
 au.Ex (fx:=fx.plain) hc (fun e=>by cases e) hr
theorem au.born {P:Program}{ops:Array Oper}{o:Oper}{rest:List Oper}{n:Nat}{done:List Fx}{Q:St->Prop}{ts:Ts}{ls aH:List (List D)}{h:ag}{v:V}
  (b:qH P o v ls aH) (f:iy o.dst n=true) (hr:au P ops n rest ({ wl:=true,nu:=true }::done) Q ⟨n,gZ o.dst v ts,aH,h⟩):au P ops n (o::rest) done Q ⟨n,ts,ls,h⟩:=by
 refine au.Ex (fx:={ wl:=true,nu:=true }) (h':=h) ⟨f,fun L H g hH j w jl a hl r K Q hk=>?_⟩ (fun _=>⟨rfl,rfl,b⟩) hr;obtain⟨z,d,k,s,hv,l,cs,e,m,hw⟩:=b;rw [if_pos (u_ k)];have p:=g rfl;subst p;obtain⟨h1,q⟩:=hl.loc cs e z (m j w);refine hw a w K Q (hk _ j _ (jl++[w.heap.size]) ?_ ?_ (fun i x hx=>by rw [List.getElem?_append_left (List.getElem?_eq_some_iff.1 hx).1]; exact hx) q)
 ·rw [hv]; exact⟨w.heap.size,by rw [hl.2.each.length]; simp,rfl⟩
 ·rw [l]; exact h1
def nD (ops:Array Oper) (fx:Nat->Fx) (i k:Nat):Prop:=i<k/\(fx k).nu=true/\∃oi ok,ops[i]?=some oi/\ops[k]?=some ok/\oi.apart ops ok=true/\∀m,ord ops k m->ord ops i m
def vo (ops:Array Oper) (fx:Nat->Fx) (i k:Nat):Prop:=ord ops i k\/nD ops fx i k
section
variable {P:Program}{ops:Array Oper}{n:Nat}{S:Nat->St}{fx:Nat->Fx}{v:Nat->V}
theorem L0 (hc:va ops ((List.range ops.toList.length).map fx)=true) :
  (∀k o,ops[k]?=some o->∀e,e∈o.after.toList->Region.binds .any e=true->e.on<k) /\
  (∀i k oi ok,i<k->ops[i]?=some oi->ops[k]?=some ok->vo ops fx i k\/(oi.apart ops ok=true/\(fx i).iz (fx k)=false)):=by
 have b:∀k o,ops[k]?=some o->(ops.toList.zip ((List.range ops.toList.length).map fx))[k]?=some (o,fx k):=by
  intro k o hk;have bh:k<ops.size:=by
   rcases Nat.lt_or_ge k ops.size with h|h
   ·exact h
   ·rw [Array.getElem?_eq_none h] at hk; simp at hk
  rw [List.getElem?_zip_eq_some];refine⟨by simpa using hk, ?_⟩;simp [bh]
 have hlen:∀k o,ops[k]?=some o->k<(ops.toList.zip ((List.range ops.toList.length).map fx)).length:=by
  intro k o hk;have:=b k o hk;exact(List.getElem?_eq_some_iff.1 this).1
 unfold va Ew at hc;rw [List.all_eq_true] at hc;constructor
 ·intro k o hk e he j;have:=hc k (List.mem_range.2 (hlen k o hk));rw [b k o hk] at this;simp only [Bool.and_eq_true,List.all_eq_true] at this;have h1:=this.1 e he;rw [j] at h1
  simpa [Nat.blt_eq] using h1
 ·intro i k oi ok g hi hk;have:=hc k (List.mem_range.2 (hlen k ok hk));rw [b k ok hk] at this;simp only [Bool.and_eq_true,List.all_eq_true] at this;have h1:=this.2 i (List.mem_range.2 g);rw [b i oi hi] at h1;simp only [Bool.or_eq_true,Bool.and_eq_true] at h1;rcases h1 with (h1|h1)|h1
  ·exact .inl (.inl h1)
  ·exact .inr ⟨h1.1,by simpa using h1.2⟩
  ·refine .inl (.inr ⟨g,h1.1.1,oi,ok,hi,hk,h1.1.2,fun m hm=>?_⟩);have f:=h1.2;unfold Ev at f;rw [List.all_eq_true] at f;unfold ord at hm ⊢;rw [List.getD_eq_getElem?_getD] at hm ⊢;cases c:(i_ ops.toList [])[m]? with
   | none=>rw [c] at hm; simp at hm
   | some x =>
    rw [c,Option.getD_some] at hm;rw [Option.getD_some];have:=f x (List.mem_of_getElem? c);rw [hm] at this
    simpa using this
theorem L1 (bh:∀k o,ops[k]?=some o->∀e,e∈o.after.toList->Region.binds .any e=true->e.on<k){i k:Nat}(h:ord ops i k) :
  ∃o e,ops[k]?=some o/\e∈o.after.toList/\Region.binds .any e=true/\(i=e.on\/ord ops i e.on):=by
 obtain⟨h1,g,b⟩:=Et ops.toList [];simp only [List.length_nil,Nat.zero_add] at h1 b;unfold ord at h;cases hk:ops[k]? with
 | none =>
  have:ops.toList.length<=k:=by
   rcases Nat.lt_or_ge k ops.size with c|c
   ·rw [Array.getElem?_eq_getElem c] at hk; simp at hk
   ·simpa using c
  rw [List.getD_eq_getElem?_getD,List.getElem?_eq_none (by omega)] at h;simp at h
 | some o =>
  have hm:=b k o (by simpa using hk);rw [List.getD_eq_getElem?_getD,hm,Option.getD_some] at h;unfold pn at h;rcases Eu _ i _ _ h with c|⟨e,he,f,c⟩
  ·simp at c
  ·refine⟨o,e,rfl,he,f,c.imp id fun c=>?_⟩;have hl:=bh k o hk e he f;unfold ord;rw [List.getD_eq_getElem?_getD,List.getElem?_take_of_lt hl,<- List.getD_eq_getElem?_getD] at c;exact c
end
end Go.Ab
/-
 A region that draws its order: every order comes to the same end.
-/
namespace Go.Ab
open Go Go.RowKit
variable {an:bf}
variable {gv:eN}
def bu (bg:Array Bool) (i:Nat):Prop:=bg.getD i false=true
structure Inv [bf] [eN] (ops:Array Oper) (S:Nat->St) (fx:Nat->Fx) (v:Nat->V) (n:Nat) (j0:J) (w0:World) (O0:Nat->Prop) (cQ bg:Array Bool) (lim:List (Nat×Nat)) (tv:Nat->Value) (j:J) (w:World) (jl:List Nat) (a:Act):Prop where
 mc:cQ.size=ops.size
 th:bg.size=ops.size
 ja:∀i,bu cQ i↔(bu bg i\/∃b,(i,b)∈lim)
 nE:∀k,bu cQ k->∀p,ord ops p k->bu cQ p
 closed:∀k,bu bg k->∀p,vo ops fx p k->bu bg p
 defers:a.defers=eN.ds
 qI:a.tmps.size=n
 agree:∀t,(∀m b o,(m,b)∈lim->ops[m]?=some o->o.dst≠some t)->a.tmps.getD t undef=tv t
 tm:∀t,∃k,k<=ops.size/\(∀p o,ops[p]?=some o->o.dst=some t->(bu bg p↔p<k))/\aZ j w jl (get (S k).ts t) (tv t)
 st:∃kl kh,kl<=ops.size/\kh<=ops.size/\(∀p,p<ops.size->(fx p).wl=true->(bu bg p↔p<kl))/\(∀p,p<ops.size->(fx p).wh=true->(bu bg p↔p<kh)) /\
  HL j w jl (S kl).ls (S kh).h/\bC j0 w0 O0 j w (Own j (S kh).h jl)/\∀m b,(m,b)∈lim->w0.heap.size<=b/\b<w.heap.size/\¬Own j (S kh).h jl b
 nd:lim.Pairwise fun x y=>x.1≠y.1/\x.2≠y.2
 pq:∀m b,(m,b)∈lim->¬bu bg m/\(fx m).nu=true/\(∀p,ord ops p m->bu bg p)/\∃o z d cs e,ops[m]?=some o/\o.dst=some d/\v m=.dI (S m).ls.length 0/\(S (m+1)).ls=(S m).ls++[z] /\
  (∀j w,aR (aA j w) z cs)/\w.heap[b]?=some (.cells cs.toArray e (0,0))/\j.F b=0/\a.tmps.getD d undef=.pointer (some ⟨b,0,none⟩)
section
variable {P:Program}{ops:Array Oper}{n:Nat}{S:Nat->St}{fx:Nat->Fx}{v:Nat->V}
theorem Ey {α:Type}(f:Nat->α){N:Nat}(W:Nat->Prop) (g:∀k,k<N->¬W k->f (k+1)=f k) :
  ∀(a b:Nat),a<=b->b<=N->(∀p,a<=p->p<b->¬W p)->f b=f a:=by
 intro a b j;induction b with
 | zero =>
  intro _ _;have:a=0:=by omega
  rw [this]
 | succ b i =>
  intro l hw;by_cases e:a=b+1
  ·rw [e]
  ·rw [g b (by omega) (hw b (by omega) (by omega))];exact i (by omega) (by omega) fun p h1 m=>hw p h1 (by omega)
theorem qJ {α:Type}(f:Nat->α){N:Nat}(W X:Nat->Prop) (g:∀k,k<N->¬W k->f (k+1)=f k){k i:Nat}(hk:k<=N) (hi:i<=N)
  (h1:∀p,p<N->W p->(X p↔p<k)) (j:∀p,p<N->W p->(X p↔p<i)):f k=f i:=by
 rcases Nat.le_total k i with h|h
 ·exact(Ey f W g k i h hi fun p a b hw=>by have:=(j p (by omega) hw).2 b; have:=(h1 p (by omega) hw).1 this; omega).symm
 ·exact Ey f W g i k h hk fun p a b hw=>by have:=(h1 p (by omega) hw).2 b; have:=(j p (by omega) hw).1 this; omega
theorem Ez {bg:Array Bool}{i:Nat}(h:i∈Region.ready .any ops bg) (g:bg.size=ops.size) :
  ∃o,ops[i]?=some o/\i<ops.size/\¬bu bg i/\∀e,e∈o.after.toList->Region.binds .any e=true->bu bg e.on:=by
 simp only [Region.ready,List.mem_filter,List.mem_range,Bool.and_eq_true,Bool.not_eq_true'] at h;obtain⟨bh,h1,b⟩:=h;refine⟨ops[i],by simp [bh],bh, ?_, ?_⟩
 ·unfold bu;rw [Array.getD_eq_getD_getElem?,Array.getElem?_eq_getElem (by omega)] at h1 ⊢;simp at h1 ⊢; exact h1
 ·intro e he f;rw [Array.getElem?_eq_getElem bh] at b;simp only [Option.map_some,Option.getD_some,Array.all_eq_true'] at b;have:=b e (by simpa using he);rw [f] at this
  simpa [bu] using this
theorem bu.set {bg:Array Bool}{i p:Nat}(hi:i<bg.size):bu (bg.setIfInBounds i true) p↔(p=i\/bu bg p):=by
 unfold bu;rw [Array.getD_eq_getD_getElem?,Array.getElem?_setIfInBounds];by_cases e:i=p
 ·subst e; simp [hi]
 ·rw [if_neg e];constructor
  ·intro h; right; rw [Array.getD_eq_getD_getElem?]; exact h
  ·rintro (h|h)
   ·omega
   ·rw [Array.getD_eq_getD_getElem?] at h; exact h
variable (bh:∀k o,ops[k]?=some o->∀e,e∈o.after.toList->Region.binds .any e=true->e.on<k)
 (dW:∀i k oi ok,i<k->ops[i]?=some oi->ops[k]?=some ok->vo ops fx i k\/(oi.apart ops ok=true/\(fx i).iz (fx k)=false))
 (hS:∀k o,ops[k]?=some o->yJ P ops n S fx v k o)
 {j0:J}{w0:World}{O0:Nat->Prop}
include bh in
theorem yK {bg:Array Bool}{i:Nat}{o:Oper}(l:ops[i]?=some o) (m:∀k,bu bg k->∀p,ord ops p k->bu bg p)
  (f:∀e,e∈o.after.toList->Region.binds .any e=true->bu bg e.on){p:Nat}(h:ord ops p i):bu bg p:=by
 obtain⟨o',e,h1,g,j,b⟩:=L1 bh h;rw [l] at h1; simp only [Option.some.injEq] at h1; subst h1;rcases b with b|b
 ·rw [b]; exact f e g j
 ·exact m e.on (f e g j) p b
include dW in
theorem tj {bg:Array Bool}{i:Nat}{o:Oper}(f:ops[i]?=some o) (g:¬bu bg i) (l:∀k,bu bg k->∀p,vo ops fx p k->bu bg p)
  (m:∀p,vo ops fx p i->bu bg p){p:Nat}{op:Oper}(j:ops[p]?=some op)
  (q:p<i->op.apart ops o=true->(fx p).iz (fx i)=false->False) (r:i<p->o.apart ops op=true->(fx i).iz (fx p)=false->False):bu bg p↔p<i:=by
 rcases Nat.lt_trichotomy p i with h|h|h
 ·refine⟨fun _=>h,fun _=>?_⟩;rcases dW p i op o h j f with h1|⟨h1,b⟩
  ·exact m p h1
  ·exact(q h h1 b).elim
 ·subst h; exact⟨fun h=>(g h).elim,fun h=>by omega⟩
 ·refine⟨fun hr=>?_,fun h'=>by omega⟩;rcases dW i p o op h f j with h1|⟨h1,b⟩
  ·exact(g (l p hr i h1)).elim
  ·exact(r h h1 b).elim
theorem kr {i:Nat}(h:i<ops.size):ops[i]?=some ops[i]:=Array.getElem?_eq_getElem h
theorem pu {i:Nat}{o:Oper}(h:ops[i]?=some o):i<ops.size:=by
 rcases Nat.lt_or_ge i ops.size with h'|h'
 ·exact h'
 ·rw [Array.getElem?_eq_none h'] at h; simp at h
include hS in
theorem EA (t:Nat):∀k,k<ops.size->¬(∃o,ops[k]?=some o/\o.dst=some t)->get (S (k+1)).ts t=get (S k).ts t:=by
 intro k hk hn;rw [(hS k _ (kr hk)).2.2.1];cases b:(ops[k]).dst with
 | none=>rfl
 | some d =>
  simp only [gZ];exact fe _ _ fun e=>hn ⟨_,kr hk,by rw [b,e]⟩
include dW hS in
theorem vb {bg:Array Bool}{i kl:Nat}{o:Oper}(b:ops[i]?=some o) (f:¬bu bg i) (g:∀k,bu bg k->∀p,vo ops fx p k->bu bg p) (j:∀p,vo ops fx p i->bu bg p)
  (l:kl<=ops.size) (m:∀p,p<ops.size->(fx p).wl=true->(bu bg p↔p<kl)) (hr:((fx i).rl||(fx i).wl)=true):(S kl).ls=(S i).ls :=
 qJ (fun k=>(S k).ls) (fun p=>(fx p).wl=true) (bu bg) (fun k hk hn=>(hS k _ (kr hk)).2.2.2.1 (by simpa using hn)) l (Nat.le_of_lt (pu b)) m fun p q hw =>
  tj dW b f g j (kr q) (fun _ _ c=>by simp [Fx.iz] at c; simp only [Bool.or_eq_true] at hr; rcases hr with r|r<;>simp [r,hw] at c)
   (fun _ _ c=>by simp [Fx.iz] at c; simp only [Bool.or_eq_true] at hr; rcases hr with r|r<;>simp [r,hw] at c)
include dW hS in
theorem yL {bg:Array Bool}{i kh:Nat}{o:Oper}(b:ops[i]?=some o) (f:¬bu bg i) (g:∀k,bu bg k->∀p,vo ops fx p k->bu bg p) (j:∀p,vo ops fx p i->bu bg p)
  (l:kh<=ops.size) (m:∀p,p<ops.size->(fx p).wh=true->(bu bg p↔p<kh)) (hr:((fx i).rh||(fx i).wh)=true):(S kh).h=(S i).h :=
 qJ (fun k=>(S k).h) (fun p=>(fx p).wh=true) (bu bg) (fun k hk hn=>(hS k _ (kr hk)).2.2.2.2.1 (by simpa using hn)) l (Nat.le_of_lt (pu b)) m fun p q hw =>
  tj dW b f g j (kr q) (fun _ _ c=>by simp [Fx.iz] at c; simp only [Bool.or_eq_true] at hr; rcases hr with r|r<;>simp [r,hw] at c)
   (fun _ _ c=>by simp [Fx.iz] at c; simp only [Bool.or_eq_true] at hr; rcases hr with r|r<;>simp [r,hw] at c)
include dW in
theorem yM {bg:Array Bool}{i k:Nat}{o:Oper}(l:i<bg.size) (m:ops[i]?=some o) (q:¬bu bg i) (r:∀k,bu bg k->∀p,vo ops fx p k->bu bg p) (s:∀p,vo ops fx p i->bu bg p)
  (W:Fx->Bool) (f:∀x y:Fx,W x=true->W y=true->x.iz y=true) (hw:∀p,p<ops.size->W (fx p)=true->(bu bg p↔p<k)) :
  ∀p,p<ops.size->W (fx p)=true->(bu (bg.setIfInBounds i true) p↔p<(bif W (fx i) then i+1 else k)):=by
 intro p g b;rw [bu.set l];by_cases e:p=i
 ·subst e; simp [b]
 ·simp only [e,false_or];cases j:W (fx i) with
  | false=>simp only [cond_false]; exact hw p g b
  | true =>
   simp only [cond_true];have:=tj dW m q r s (kr g) (fun _ _ c=>by rw [f _ _ b j] at c; cases c) (fun _ _ c=>by rw [f _ _ j b] at c; cases c);rw [this]; omega
include dW hS in
theorem EB {bg:Array Bool}{i:Nat}{o:Oper}{j j':J}{w w':World}{jl l:List Nat}{tv m:Nat->Value}(q:i<bg.size) (g:ops[i]?=some o) (r:¬bu bg i)
  (s:∀k,bu bg k->∀p,vo ops fx p k->bu bg p) (u:∀p,vo ops fx p i->bu bg p) (hle:Le j w j' w') (hx:Ext jl l){cv:Value}(hv:aZ j' w' l (v i) cv)
  (h1:∀t,o.dst=some t->m t=cv) (x:∀t,o.dst≠some t->m t=tv t)
  (y:∀t,∃k,k<=ops.size/\(∀p o,ops[p]?=some o->o.dst=some t->(bu bg p↔p<k))/\aZ j w jl (get (S k).ts t) (tv t)) :
  ∀t,∃k,k<=ops.size/\(∀p o,ops[p]?=some o->o.dst=some t->(bu (bg.setIfInBounds i true) p↔p<k))/\aZ j' w' l (get (S k).ts t) (m t):=by
 intro t;have C:=pu g;by_cases ht:o.dst=some t
 ·refine⟨i+1,by omega,fun p op b f=>?_, ?_⟩
  ·rw [bu.set q];by_cases e:p=i
   ·subst e; simp
   ·have:=tj dW g r s u b (fun _ c _=>(Oper.apart_spec c).2.1 t f ht) (fun _ c _=>(Oper.apart_spec c).2.1 t ht f);rw [this]; omega
  ·rw [(hS i o g).2.2.1,ht,h1 t ht];simp only [gZ,fQ];exact hv
 ·obtain⟨k,z,hw,B⟩:=y t;refine⟨k,z,fun p op b f=>?_, ?_⟩
  ·rw [bu.set q];have:p≠i:=fun e=>by subst e; rw [g] at b; simp only [Option.some.injEq] at b; subst b; exact ht f
   simp only [this,false_or]; exact hw p op b f
  ·rw [x t ht]; exact B.mono hle hx
theorem EC (x y:Fx) (hx:x.wl=true) (b:y.wl=true):x.iz y=true:=by simp [Fx.iz,hx,b]
theorem L2 (x y:Fx) (hx:x.wh=true) (b:y.wh=true):x.iz y=true:=by simp [Fx.iz,hx,b]
theorem vc {bg:Array Bool}{i:Nat}{R:Nat->Nat->Prop}(f:i<bg.size) (g:∀k,bu bg k->∀p,R p k->bu bg p) (j:∀p,R p i->bu bg p) :
  ∀k,bu (bg.setIfInBounds i true) k->∀p,R p k->bu (bg.setIfInBounds i true) p:=by
 intro k hr p b;rw [bu.set f] at hr ⊢;rcases hr with hr|hr
 ·subst hr; exact .inr (j p b)
 ·exact .inr (g k hr p b)
theorem ve (a:Act) (dst:Option Tmp) (cv:Value) (t:Nat) (h:dst≠some t):(a.put dst cv).tmps.getD t undef=a.tmps.getD t undef:=by
 cases dst with
 | none=>rfl
 | some d =>
  have:d≠t:=fun e=>h (by rw [e]);simp [Act.put,Array.getD_eq_getD_getElem?,Array.getElem?_setIfInBounds,this]
theorem ED (a:Act) (t:Nat) (cv:Value) (h:t<a.tmps.size):(a.put (some t) cv).tmps.getD t undef=cv:=by
 simp [Act.put,Array.getD_eq_getD_getElem?,h]
theorem L3 {bg:Array Bool}{i m:Nat}{o b:Oper}(dW:∀i k oi ok,i<k->ops[i]?=some oi->ops[k]?=some ok->vo ops fx i k\/(oi.apart ops ok=true/\(fx i).iz (fx k)=false))
  (g:ops[i]?=some o) (hm:ops[m]?=some b) (t:m≠i) (q:¬bu bg m) (r:∀p,vo ops fx p i->bu bg p) (s:¬ord ops i m){d:Nat}(f:b.dst=some d):d∉o.looksAt ops/\o.dst≠some d:=by
 rcases Nat.lt_or_ge m i with h|h
 ·rcases dW m i b o h hm g with h1|⟨h1,_⟩
  ·exact(q (r m h1)).elim
  ·exact⟨(Oper.apart_spec h1).1 d f,fun e=>(Oper.apart_spec h1).2.1 d f e⟩
 ·have h:i<m:=by omega
  have:o.apart ops b=true:=by
   rcases dW i m o b h g hm with (h1|⟨_,_,oi,ok,j,l,h1,_⟩)|⟨h1,_⟩
   ·exact(s h1).elim
   ·rw [g] at j; rw [hm] at l; simp only [Option.some.injEq] at j l; subst j l; exact h1
   ·exact h1
  exact⟨(Oper.apart_spec this).2.2 d f,fun e=>(Oper.apart_spec this).2.1 d e f⟩
include bh dW hS in
theorem L4 {cQ bg:Array Bool}{lim:List (Nat×Nat)}{tv:Nat->Value}{j:J}{w:World}{jl:List Nat}{a:Act}(hinv:Inv ops S fx v n j0 w0 O0 cQ bg lim tv j w jl a){i:Nat}{o:Oper}
  (f:ops[i]?=some o) (x:¬bu cQ i) (Y:∀e,e∈o.after.toList->Region.binds .any e=true->bu cQ e.on) (g:∀p,vo ops fx p i->bu bg p)
  {K:Act->World->Prop}{Q:Exit->Act->World->Prop}(hk:∀Z j' w' y H,Inv ops S fx v n j0 w0 O0 (cQ.setIfInBounds i true) (bg.setIfInBounds i true) lim Z j' w' y H->K H w'):wpOp P ops Q i K a w:=by
 have B:=pu f;have q:i<bg.size:=by rw [hinv.th]; exact B
 have I:i<cQ.size:=by rw [hinv.mc]; exact B
 have r:¬bu bg i:=fun c=>x ((hinv.ja i).2 (.inl c));have L:∀b,(i,b)∉lim:=fun b c=>x ((hinv.ja i).2 (.inr ⟨b,c⟩));obtain⟨M,al,am,an,ao,ap⟩:=hS i o f;obtain⟨kl,kh,aa,ab,N,O,ad,ae,R⟩:=hinv.st;have af:=vb dW hS f r hinv.closed g aa N;have hH:=yL dW hS f r hinv.closed g ab O;have U:∀m b l d,(m,b)∈lim->ops[m]?=some l->l.dst=some d->d∉o.looksAt ops/\o.dst≠some d:=fun m b l d hm C E =>
  L3 dW f C (fun e=>L b (e▸hm)) (hinv.pq m b hm).1 g (fun c=>x (hinv.nE m ((hinv.ja m).2 (.inr ⟨b,hm⟩)) i c)) E
 have ah:∀t,t∈o.looksAt ops->aZ j w jl (get (S i).ts t) (a.tmps.getD t undef):=by
  intro t ht;rw [hinv.agree t fun m b l hm C E=>(U m b l t hm C E).1 ht];obtain⟨k,hk,hw,hv⟩:=hinv.tm t;have:get (S k).ts t=get (S i).ts t :=
   qJ (fun k=>get (S k).ts t) (fun p=>∃o,ops[p]?=some o/\o.dst=some t) (bu bg) (EA hS t) hk (Nat.le_of_lt B) (fun p _ ⟨op,h1,s⟩=>hw p op h1 s) fun p _ ⟨op,h1,s⟩ =>
    tj dW f r hinv.closed g h1 (fun _ c _=>(Oper.apart_spec c).1 t s ht) (fun _ c _=>(Oper.apart_spec c).2.2 t s ht)
  rw [<- this]; exact hv
 have u:=M.2 (S kl).ls (S kh).h af hH j w jl a ad ah K Q fun cv j' w' y hv hl hx he =>
  hk (fun t=>if o.dst=some t then cv else tv t) j' w' y _ ?_
 ·unfold wpOp;simp only [f]
  split
  ·rename_i hw; rw [if_pos hw] at u; exact .inl u
  ·rename_i hw; rw [if_neg hw] at u; exact u
 ·have F:(S (bif (fx i).wh then i+1 else kh)).h=(bif (fx i).wh then(S (i+1)).h else(S kh).h):=by cases (fx i).wh<;>rfl
  refine⟨by simp [hinv.mc],by simp [hinv.th],fun k=>?_,vc I hinv.nE fun p G=>yK bh f hinv.nE Y G,vc q hinv.closed g,by rw [put_defers]; exact hinv.defers,
   by rw [fR]; exact hinv.qI,fun t ht=>?_,EB dW hS q f r hinv.closed g he.toLe hx hv (fun t e=>by simp [e]) (fun t e=>by simp [e]) hinv.tm, ?_,hinv.nd,fun m b hm=>?_⟩
  ·rw [bu.set I,bu.set q,hinv.ja k];constructor
   ·rintro (h|h|h)
    ·exact .inl (.inl h)
    ·exact .inl (.inr h)
    ·exact .inr h
   ·rintro ((h|h)|h)
    ·exact .inl h
    ·exact .inr (.inl h)
    ·exact .inr (.inr h)
  ·by_cases e:o.dst=some t
   ·rw [if_pos e,e];refine ED a t cv ?_;have W:=M.1;rw [e] at W;rw [hinv.qI]; simpa [iy,Nat.blt_eq] using W
   ·rw [if_neg e,ve a o.dst cv t e]; exact hinv.agree t ht
  ·refine⟨(bif (fx i).wl then i+1 else kl),(bif (fx i).wh then i+1 else kh),by cases (fx i).wl<;>simp<;>omega,by cases (fx i).wh<;>simp<;>omega,
    yM dW q f r hinv.closed g (·.wl) EC N,yM dW q f r hinv.closed g (·.wh) L2 O, ?_, ?_,fun m b hm=>?_⟩
   ·have ai:(S (bif (fx i).wl then i+1 else kl)).ls=(bif (fx i).wl then(S (i+1)).ls else(S kl).ls):=by cases (fx i).wl<;>rfl
    rw [ai,F]; exact hl
   ·rw [F]; exact ae.trans he
   ·obtain⟨g1,g2,g3⟩:=R m b hm;rw [F];exact⟨g1,Nat.lt_of_lt_of_le g2 he.size,fun c=>g3 (he.own b g2 c)⟩
  ·obtain⟨g1,g2,g0,l,z,d,cs,e,g3,g4,g5,g6,g7,g8,g9,g10⟩:=hinv.pq m b hm;obtain⟨ar,aj,ak⟩:=R m b hm;have X:=he.frame b aj ak;refine⟨fun c=>?_,g2,fun p G=>(bu.set q).2 (.inr (g0 p G)),l,z,d,cs,e,g3,g4,g5,g6,g7,by rw [X.1]; exact g8,by rw [X.2]; exact g9, ?_⟩
   ·rcases (bu.set q).1 c with c|c
    ·subst c; exact L b hm
    ·exact g1 c
   ·rw [ve a o.dst cv d (U m b l d hm g3 g4).2]; exact g10
include bh dW hS in
theorem L5 {cQ bg:Array Bool}{lim:List (Nat×Nat)}{tv:Nat->Value}{j:J}{w:World}{jl:List Nat}{a:Act}(hinv:Inv ops S fx v n j0 w0 O0 cQ bg lim tv j w jl a){i:Nat}{o:Oper}
  (f:ops[i]?=some o) (y:¬bu cQ i) (R:∀e,e∈o.after.toList->Region.binds .any e=true->bu cQ e.on) (E:∀p,ord ops p i->bu bg p) (F:(fx i).nu=true)
  {K:Act->World->Prop}{Q:Exit->Act->World->Prop}(hk:∀w' G b,Inv ops S fx v n j0 w0 O0 (cQ.setIfInBounds i true) bg ((i,b)::lim) tv j w' jl G->K G w'):wpOp P ops Q i K a w:=by
 have U:=pu f;have H:i<cQ.size:=by rw [hinv.mc]; exact U
 have W:¬bu bg i:=fun c=>y ((hinv.ja i).2 (.inl c));have I:∀b,(i,b)∉lim:=fun b c=>y ((hinv.ja i).2 (.inr ⟨b,c⟩));obtain⟨X,ay,az,aA,aB,Y⟩:=hS i o f;obtain⟨aC,aD,z,d,Z,l,hv,aa,cs,e,ab,ad⟩:=Y F;obtain⟨kl,kh,ae,af,ah,ai,s,L,B⟩:=hinv.st;have aj:d<a.tmps.size:=by
  have M:=X.1;rw [l] at M;rw [hinv.qI]; simpa [iy,Nat.blt_eq] using M
 have ak:∀m b g t,(m,b)∈lim->ops[m]?=some g->g.dst=some t->t≠d:=fun m b g t hm u ht e=>by
  subst e;have aE:m≠i:=fun e=>I b (e▸hm);have al:¬ord ops i m:=fun c=>y (hinv.nE m ((hinv.ja m).2 (.inr ⟨b,hm⟩)) i c);rcases Nat.lt_or_ge m i with h|h
  ·rcases dW m i g o h u f with (h1|⟨_,_,oi,ok,q,r,h1,_⟩)|⟨h1,_⟩
   ·exact(hinv.pq m b hm).1 (E m h1)
   ·rw [u] at q; rw [f] at r; simp only [Option.some.injEq] at q r; subst q r; exact(Oper.apart_spec h1).2.1 t ht l
   ·exact(Oper.apart_spec h1).2.1 t ht l
  ·rcases dW i m o g (by omega) f u with (h1|⟨_,_,oi,ok,q,r,h1,_⟩)|⟨h1,_⟩
   ·exact al h1
   ·rw [f] at q; rw [u] at r; simp only [Option.some.injEq] at q r; subst q r; exact(Oper.apart_spec h1).2.1 t l ht
   ·exact(Oper.apart_spec h1).2.1 t l ht
 have N:=s.data (an:=an) (.cells cs.toArray e) 0;rw [J.tg (s.1.fresh _ (Nat.le_refl _))] at N;obtain⟨am,O⟩:=N;unfold wpOp;simp only [f];rw [if_pos (u_ Z)];refine .inl (ad a w K Q (hk _ _ w.heap.size ?_));refine⟨by simp [hinv.mc],hinv.th,fun k=>?_,vc H hinv.nE fun p ao=>yK bh f hinv.nE R ao,hinv.closed,by rw [put_defers]; exact hinv.defers,by rw [fR]; exact hinv.qI,
  fun t ht=>?_,fun t=>?_,⟨kl,kh,ae,af,ah,ai,am,L.trans O,fun m b hm=>?_⟩, ?_,fun m b hm=>?_⟩
 ·rw [bu.set H,hinv.ja k];constructor
  ·rintro (h|h|⟨b,h⟩)
   ·exact .inr ⟨w.heap.size,by rw [h]; simp⟩
   ·exact .inl h
   ·exact .inr ⟨b,by simp [h]⟩
  ·rintro (h|⟨b,h⟩)
   ·exact .inr (.inl h)
   ·rcases List.mem_cons.1 h with h|h
    ·exact .inl (by simpa using congrArg Prod.fst h)
    ·exact .inr (.inr ⟨b,h⟩)
 ·have h1:o.dst≠some t:=ht i w.heap.size o (by simp) f;rw [ve a o.dst _ t h1];exact hinv.agree t fun m b g hm=>ht m b g (by simp [hm])
 ·obtain⟨k,h1,ap,ar⟩:=hinv.tm t;exact⟨k,h1,ap,ar.mono O.toLe (Ext.refl _)⟩
 ·rcases List.mem_cons.1 hm with h|h
  ·simp only [Prod.mk.injEq] at h;obtain⟨rfl,rfl⟩:=h;exact⟨L.size,by simp,fun c=>Nat.lt_irrefl _ (Own.lt s c)⟩
  ·obtain⟨g1,g2,g3⟩:=B m b h;exact⟨g1,by simp; omega,g3⟩
 ·refine List.pairwise_cons.2 ⟨fun x hx=>⟨fun c=>I x.2 (by have c:i=x.1:=c; rw [c]; exact hx),fun c=>?_⟩,hinv.nd⟩;have:=(B x.1 x.2 hx).2.1;simp only at c;omega
 ·rcases List.mem_cons.1 hm with h|h
  ·simp only [Prod.mk.injEq] at h;obtain⟨rfl,rfl⟩:=h;refine⟨W,F,E,o,z,d,cs,e,f,l,hv,aa,ab,heap_alloc_new w _,s.1.fresh _ (Nat.le_refl _), ?_⟩;rw [l]; exact ED a d _ aj
  ·obtain⟨g1,g2,g0,g,au,C,av,aw,g3,g4,g5,g6,g7,g8,g9,g10⟩:=hinv.pq m b h;obtain⟨aF,ax,aG⟩:=B m b h;refine⟨g1,g2,g0,g,au,C,av,aw,g3,g4,g5,g6,g7,by rw [pg ax]; exact g8,g9, ?_⟩;rw [ve a o.dst _ C (by rw [l]; intro c; simp only [Option.some.injEq] at c; exact ak m b g C h g3 g4 c.symm)];exact g10
theorem EE:∀{l:List (Nat×Nat)},l.Pairwise (fun x y=>x.1≠y.1/\x.2≠y.2)->∀{x y},x∈l->y∈l->x.1≠y.1->x.2≠y.2
 | [],_,_,_,hx,_,_=>by simp at hx
 | a::l,h,x,y,hx,i,hn=>by
  obtain⟨h1,j⟩:=List.pairwise_cons.1 h;rcases List.mem_cons.1 hx with ex|b<;>rcases List.mem_cons.1 i with f|g
  ·subst ex f; exact(hn rfl).elim
  ·subst ex; exact(h1 y g).2
  ·subst f; exact(h1 x b).2.symm
  ·exact EE j b g hn
include dW hS in
theorem L6 {cQ bg:Array Bool}{lim:List (Nat×Nat)}{tv:Nat->Value}{j:J}{w:World}{jl:List Nat}{a:Act}(hinv:Inv ops S fx v n j0 w0 O0 cQ bg lim tv j w jl a){m b:Nat}
  (hm:(m,b)∈lim) (s:∀p,vo ops fx p m->bu bg p):∃O,Inv ops S fx v n j0 w0 O0 cQ (bg.setIfInBounds m true) (lim.filter fun x=>x.1 != m) O j w (jl++[b]) a:=by
 obtain⟨B,P,_,o,z,d,cs,e,q,Q,hv,R,U,W,X,Y⟩:=hinv.pq m b hm;have Z:=pu q;have l:m<bg.size:=by rw [hinv.th]; exact Z
 obtain⟨kl,kh,aa,ab,H,ad,r,C,I⟩:=hinv.st;obtain⟨ai,aj,K⟩:=I m b hm;obtain⟨L,ae,_⟩:=(hS m o q).2.2.2.2.2 P;have M:=vb dW hS q B hinv.closed s aa H (by rw [L]; simp);have hx:Ext jl (jl++[b]):=fun i x hx=>by rw [List.getElem?_append_left (List.getElem?_eq_some_iff.1 hx).1]; exact hx
 have E:∀m' f,(m',f)∈lim.filter (fun x=>x.1 != m)->(m',f)∈lim/\m'≠m:=fun m' f h=>by
  rw [List.mem_filter] at h; exact⟨h.1,by simpa using h.2⟩
 refine⟨fun t=>if o.dst=some t then .pointer (some ⟨b,0,none⟩) else tv t,hinv.mc,by simp [hinv.th],fun k=>?_,hinv.nE,vc l hinv.closed s,hinv.defers,hinv.qI,fun t ht=>?_,
  EB dW hS l q B hinv.closed s (Le.refl j w) hx (cv:=.pointer (some ⟨b,0,none⟩)) ?_ (fun t e=>by simp [e]) (fun t e=>by simp [e]) hinv.tm,
  ⟨m+1,kh,by omega,ab, ?_,fun p F hw=>?_, ?_,{ C with own:=fun f u g=>?_ },fun m' f h=>?_⟩,hinv.nd.filter _,fun m' f h=>?_⟩
 ·rw [bu.set l,hinv.ja k];constructor
  ·rintro (h|⟨f,h⟩)
   ·exact .inl (.inr h)
   ·by_cases e:k=m
    ·exact .inl (.inl e)
    ·exact .inr ⟨f,by rw [List.mem_filter]; exact⟨h,by simpa using e⟩⟩
  ·rintro ((h|h)|⟨f,h⟩)
   ·exact .inr ⟨b,h▸hm⟩
   ·exact .inl h
   ·exact .inr ⟨f,(E k f h).1⟩
 ·by_cases e:o.dst=some t
  ·rw [if_pos e];rw [Q] at e;simp only [Option.some.injEq] at e;subst e;exact Y
  ·rw [if_neg e];refine hinv.agree t fun m' f o' af g=>?_;by_cases c:m'=m
   ·subst c; rw [q] at g; simp only [Option.some.injEq] at g; subst g; exact e
   ·exact ht m' f o' (by rw [List.mem_filter]; exact⟨af,by simpa using c⟩) g
 ·rw [hv];refine⟨b, ?_,rfl⟩;rw [<- M,r.2.each.length]; simp
 ·have:=yM dW l q B hinv.closed s (·.wl) EC H;rw [L] at this;exact this
 ·rw [bu.set l,<- ad p F hw];refine⟨fun c=>c.elim (fun e=>?_) id,.inr⟩;subst e; rw [ae] at hw; cases hw
 ·rw [R,<- M];refine⟨r.1,r.2.each.append (.cons ⟨cs,e,W,U j w,X⟩ .nil), ?_,fun f u g=>?_⟩
  ·rw [List.nodup_append];refine⟨r.2.nodup,by simp,fun x ah y N=>?_⟩;simp at N; subst N;intro c; subst c; exact K (.inl ah)
  ·rcases List.mem_append.1 u with h|h
   ·exact r.2.apart f h g
   ·simp at h; subst h;rcases g with h|h
    ·simp at h
    ·exact K (.inr h)
 ·rcases g with h|h
  ·rcases List.mem_append.1 h with h|h
   ·exact C.own f u (.inl h)
   ·simp at h; omega
  ·exact C.own f u (.inr h)
 ·obtain⟨h1,G⟩:=E m' f h;obtain⟨g1,g2,g3⟩:=I m' f h1;refine⟨g1,g2,fun c=>?_⟩;rcases c with c|c
  ·rcases List.mem_append.1 c with c|c
   ·exact g3 (.inl c)
   ·simp at c;exact EE hinv.nd h1 hm G c
  ·exact g3 (.inr c)
 ·obtain⟨h1,G⟩:=E m' f h;obtain⟨g1,g2,g0,g3⟩:=hinv.pq m' f h1;exact⟨fun c=>((bu.set l).1 c).elim G g1,g2,fun p F=>(bu.set l).2 (.inr (g0 p F)),g3⟩
include dW hS in
theorem settle {j:J}{w:World}{a:Act}{cQ:Array Bool}{C:Prop}:∀(N:Nat){bg:Array Bool}{lim:List (Nat×Nat)}{tv:Nat->Value}{jl:List Nat},lim.length<=N->Inv ops S fx v n j0 w0 O0 cQ bg lim tv j w jl a ->
  (∀bg lim tv jl,Inv ops S fx v n j0 w0 O0 cQ bg lim tv j w jl a->(∀m b,(m,b)∈lim->∃p,nD ops fx p m/\¬bu bg p)->C)->C:=by
 intro N;induction N with
 | zero =>
  intro bg lim tv jl g hinv hC;have:lim=[]:=List.eq_nil_of_length_eq_zero (by omega);subst this;exact hC _ _ _ _ hinv fun m b h=>by simp at h
 | succ N i =>
  intro bg lim tv jl g hinv hC;by_cases c:∃m b,(m,b)∈lim/\∀p,nD ops fx p m->bu bg p
  ·obtain⟨m,b,hm,f⟩:=c;obtain⟨k,h⟩:=L6 dW hS hinv hm fun p h=>h.elim ((hinv.pq m b hm).2.2.1 p) (f p);refine i ?_ h hC;have:(lim.filter fun x=>x.1 != m).length<lim.length:=List.length_filter_lt_length_iff_exists.2 ⟨(m,b),hm,by simp⟩;omega
  ·refine hC _ _ _ _ hinv fun m b hm=>Classical.byContradiction fun c'=>c ⟨m,b,hm,fun p f=>Classical.byContradiction fun c2=>c' ⟨p,f,c2⟩⟩
theorem L7 {cQ bg:Array Bool}{lim:List (Nat×Nat)}{tv:Nat->Value}{j:J}{w:World}{jl:List Nat}{a:Act}(hinv:Inv ops S fx v n j0 w0 O0 cQ bg lim tv j w jl a)
  (f:∀m b,(m,b)∈lim->∃p,nD ops fx p m/\¬bu bg p){i:Nat}(g:∀p,ord ops p i->bu cQ p):∀m b,(m,b)∈lim->ord ops m i->False:=by
 intro m;induction m using Nat.strongRecOn with
 | _ m k =>
  intro b hm l;obtain⟨p,o,hn⟩:=f m b hm;obtain⟨bh,_,_,_,_,_,_,q⟩:=o;have h1:=q i l;rcases (hinv.ja p).1 (g p h1) with h|⟨r,h⟩
  ·exact hn h
  ·exact k p bh r h h1
theorem L8 {cQ bg:Array Bool}{lim:List (Nat×Nat)}{tv:Nat->Value}{j:J}{w:World}{jl:List Nat}{a:Act}(hinv:Inv ops S fx v n j0 w0 O0 cQ bg lim tv j w jl a)
  (f:∀m b,(m,b)∈lim->∃p,nD ops fx p m/\¬bu bg p) (g:∀p,p<ops.size->bu cQ p):lim=[]:=by
 have:∀m b,(m,b)∈lim->False:=by
  intro m;induction m using Nat.strongRecOn with
  | _ m i =>
   intro b hm;obtain⟨p,k,hn⟩:=f m b hm;obtain⟨bh,_,oi,ok,l,_⟩:=k;rcases (hinv.ja p).1 (g p (pu l)) with h|⟨o,h⟩
   ·exact hn h
   ·exact i p bh o h
 cases lim with
 | nil=>rfl
 | cons x r=>exact(this x.1 x.2 (by simp)).elim
include bh in
theorem L9 {bg:Array Bool}(i:bg.size=ops.size) (h:Region.ready .any ops bg=[]):∀p,p<ops.size->bu bg p:=by
 intro p;induction p using Nat.strongRecOn with
 | _ p f =>
  intro b;rcases hr:bg.getD p false with _|_
  ·have:p∈Region.ready .any ops bg:=by
    simp only [Region.ready,List.mem_filter,List.mem_range,Bool.and_eq_true,Bool.not_eq_true'];refine⟨b, ?_, ?_⟩
    ·rw [Array.getD_eq_getD_getElem?,Array.getElem?_eq_getElem (by omega)] at hr ⊢
     simpa using hr
    ·rw [Array.getElem?_eq_getElem b];simp only [Option.map_some,Option.getD_some,Array.all_eq_true'];intro e he;cases g:Region.binds .any e with
     | false=>simp
     | true =>
      have hl:=bh p _ (kr b) e (by simpa using he) g;have:=f e.on hl (by omega)
      simpa [bu] using this
   rw [h] at this; simp at this
  ·exact hr
include bh dW hS in
theorem L_ {Q:Exit->Act->World->Prop}(R:∀j w jl a,dD j w jl (S ops.size) a->bC j0 w0 O0 j w (Own j (S ops.size).h jl)->(S ops.size).n=n->Q .normal a w) (hn:∀k,k<=ops.size->(S k).n=n) :
  ∀(fuel:Nat) (cQ bg:Array Bool) (lim:List (Nat×Nat)) (tv:Nat->Value) (j:J) (w:World) (jl:List Nat) (a:Act),((List.range ops.size).filter fun i=>!cQ.getD i false).length<=fuel ->
   Inv ops S fx v n j0 w0 O0 cQ bg lim tv j w jl a->(∀m b,(m,b)∈lim->∃p,nD ops fx p m/\¬bu bg p)->wpAny P .any ops Q fuel cQ a w:=by
 have fin:∀(cQ bg:Array Bool) (lim:List (Nat×Nat)) (tv:Nat->Value) (j:J) (w:World) (jl:List Nat) (a:Act),Inv ops S fx v n j0 w0 O0 cQ bg lim tv j w jl a ->
   (∀m b,(m,b)∈lim->∃p,nD ops fx p m/\¬bu bg p)->(∀p,p<ops.size->bu cQ p)->Q .normal a w:=by
  intro cQ bg lim tv j w jl a hinv q I;have U:=L8 hinv q I;subst U;have r:∀p,p<ops.size->bu bg p:=fun p f=>((hinv.ja p).1 (I p f)).elim id fun⟨b,h⟩=>by simp at h
  obtain⟨kl,kh,W,X,Y,Z,aa,ab,_⟩:=hinv.st;have ad:(S kl).ls=(S ops.size).ls:=qJ (fun k=>(S k).ls) (fun p=>(fx p).wl=true) (bu bg) (fun k hk hn=>(hS k _ (kr hk)).2.2.2.1 (by simpa using hn)) W (Nat.le_refl _) Y
   fun p f _=>⟨fun _=>f,fun _=>r p f⟩
  have K:(S kh).h=(S ops.size).h:=qJ (fun k=>(S k).h) (fun p=>(fx p).wh=true) (bu bg) (fun k hk hn=>(hS k _ (kr hk)).2.2.2.2.1 (by simpa using hn)) X (Nat.le_refl _) Z
   fun p f _=>⟨fun _=>f,fun _=>r p f⟩
  refine R j w jl a ⟨hinv.defers,by rw [hn _ (Nat.le_refl _)]; exact hinv.qI,fun t=>?_,by rw [<- ad,<- K]; exact aa⟩ (by rw [<- K]; exact ab) (hn _ (Nat.le_refl _));obtain⟨k,hk,hw,hv⟩:=hinv.tm t;have:get (S k).ts t=get (S ops.size).ts t :=
   qJ (fun k=>get (S k).ts t) (fun p=>∃o,ops[p]?=some o/\o.dst=some t) (bu bg) (EA hS t) hk (Nat.le_refl _) (fun p _ ⟨op,h1,g⟩=>hw p op h1 g) fun p f _ =>
    ⟨fun _=>f,fun _=>r p f⟩
  rw [<- this,hinv.agree t fun m b o h=>by simp at h]; exact hv
 intro fuel;induction fuel with
 | zero =>
  intro cQ bg lim tv j w jl a ae hinv q;have r:∀p,p<ops.size->bu cQ p:=by
   intro p f;rcases hr:cQ.getD p false with _|_
   ·have:p∈(List.range ops.size).filter fun i=>!cQ.getD i false:=by simp only [List.mem_filter,List.mem_range]; exact⟨f,by rw [hr]; rfl⟩
    have:=List.length_pos_of_mem this; omega
   ·exact hr
  refine⟨?_,fin cQ bg lim tv j w jl a hinv q r⟩;rw [List.eq_nil_iff_forall_not_mem];intro i hi;obtain⟨_,_,u,l,_⟩:=Ez hi hinv.mc;exact l (r i u)
 | succ fuel L =>
  intro cQ bg lim tv j w jl a ae hinv q;refine⟨fun hr=>fin cQ bg lim tv j w jl a hinv q (L9 bh hinv.mc hr),fun i hi=>?_⟩;obtain⟨o,x,u,l,y⟩:=Ez hi hinv.mc;have M:i<cQ.size:=by rw [hinv.mc]; exact u
  have N:((List.range ops.size).filter fun p=>!(cQ.setIfInBounds i true).getD p false).length<=fuel:=by
   have ah:((List.range ops.size).filter fun p=>!(cQ.setIfInBounds i true).getD p false).length<((List.range ops.size).filter fun p=>!cQ.getD p false).length:=by
    have af:((List.range ops.size).filter fun p=>!(cQ.setIfInBounds i true).getD p false)=((List.range ops.size).filter fun p=>!cQ.getD p false).filter (fun p=>p != i):=by
     rw [List.filter_filter];refine List.filter_congr fun p _=>?_;by_cases z:p=i
     ·subst z;have s:bu (cQ.setIfInBounds p true) p:=(bu.set M).2 (.inl rfl);unfold bu at s;rw [s]; simp
     ·have s:bu (cQ.setIfInBounds i true) p↔bu cQ p:=by rw [bu.set M]; simp [z]
      unfold bu at s;rcases h1:(cQ.setIfInBounds i true).getD p false with _|_<;>rcases g:cQ.getD p false with _|_<;>rw [h1,g] at s<;>simp at s<;>simp [z]
    rw [af];refine List.length_filter_lt_length_iff_exists.2 ⟨i, ?_,by simp⟩;simp only [List.mem_filter,List.mem_range];refine⟨u, ?_⟩;unfold bu at l;simp at l ⊢; exact l
   omega
  have O:∀p,ord ops p i->bu cQ p:=fun p f=>yK bh x hinv.nE y f;have f:∀p,ord ops p i->bu bg p:=fun p f=>((hinv.ja p).1 (O p f)).elim id fun⟨b,h⟩=>(L7 hinv q O p b h f).elim;by_cases c:∀p,nD ops fx p i->bu bg p
  ·refine L4 bh dW hS hinv x l y (fun p h=>h.elim (f p) (c p)) fun ai j' w' aj B C=>?_;exact settle dW hS _ (Nat.le_refl _) C fun E F G H h1 g=>L _ E F G j' w' H B N h1 g
  ·have:(fx i).nu=true:=Classical.byContradiction fun c'=>c fun p f=>(c' f.2.1).elim;refine L5 bh dW hS hinv x l y f this fun w' B b C=>?_;exact settle dW hS _ (Nat.le_refl _) C fun E F G H h1 g=>L _ E F G j w' H B N h1 g
end
theorem au.wp {P:Program}(hm:P.follows .mixedOrders=true){id:Nat}{l:List Oper}{n:Nat}{Q:St->Prop}{σ:St}(z:au P l.toArray n l [] Q σ) (u:σ.n=n)
  {j:J}{w:World}{jl:List Nat}{a:Act}(g:dD j w jl σ a){x:Exit->Act->World->Prop}
  (hk:∀s j' w' q r,Q s->dD j' w' q s r->bC j w (Own j σ.h jl) j' w' (Own j' s.h q)->x .normal r w'):(Code.region id l.toArray true).wp P x a w:=by
 obtain⟨S,fx,v,h0,h1,B,C⟩:=z;have y:=L0 (ops:=l.toArray) (fx:=fx) (by simpa using B);have hS:∀k o,l.toArray[k]?=some o->_:=fun k o hk=>h1 k o (by simpa using hk);have hn:∀k,k<=l.toArray.size->(S k).n=n:=by
  intro k;induction k with
  | zero=>intro _; rw [h0,u]
  | succ k E=>intro hk; rw [(hS k _ (kr (by omega))).2.1]; exact E (by omega)
 refine wp_region_any hm ?_;refine L_ (n:=n) (S:=S) (fx:=fx) (v:=v) (j0:=j) (w0:=w) (O0:=Own j σ.h jl) y.1 y.2 hS (fun j' w' q r F he _=>hk (S l.toArray.size) j' w' q r (by simpa using C) F he) hn _ _ (Array.replicate l.toArray.size false) [] (fun t=>a.tmps.getD t undef) j w.drew jl a ?_ ?_ (fun m b h=>by simp at h)
 ·have:=List.length_filter_le (fun i=>!(Array.replicate l.toArray.size false).getD i false) (List.range l.toArray.size)
  simpa using this
 ·have f:∀p,¬bu (Array.replicate l.toArray.size false) p:=by
   intro p h;unfold bu at h;rw [Array.getD_eq_getD_getElem?,Array.getElem?_replicate] at h
   split at h<;>simp at h
  refine⟨by simp,by simp,fun i=>⟨fun h=>(f i h).elim,fun h=>h.elim (fun h=>(f i h).elim) fun⟨b,h⟩=>by simp at h⟩,fun k h=>(f k h).elim,fun k h=>(f k h).elim,g.defers,by rw [g.size,u],fun _ _=>rfl,
   fun t=>⟨0,Nat.zero_le _,fun p _ _ _=>⟨fun h=>(f p h).elim,fun h=>by omega⟩, ?_⟩,
   ⟨0,0,Nat.zero_le _,Nat.zero_le _,fun p _ _=>⟨fun h=>(f p h).elim,fun h=>by omega⟩,fun p _ _=>⟨fun h=>(f p h).elim,fun h=>by omega⟩, ?_, ?_,fun m b h=>by simp at h⟩,.nil,fun m b h=>by simp at h⟩
  ·rw [h0]; exact(g.tmps t).mono (bC.drew j w (Own j σ.h jl)).toLe (Ext.refl _)
  ·rw [h0]; exact g.hl.drew
  ·rw [h0]; exact bC.drew _ _ _
end Go.Ab
