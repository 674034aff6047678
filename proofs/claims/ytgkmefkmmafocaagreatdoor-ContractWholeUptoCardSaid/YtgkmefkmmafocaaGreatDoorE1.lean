import Derived.WalkKit
import Derived.Orders
import Derived.Laws.Rows
set_option maxRecDepth 100000
set_option maxHeartbeats 2000000
set_option linter.unusedVariables false
set_option linter.unusedSimpArgs false
/-
 The abstract reading of memory: plain data D,the ghost map J,when a Go value reads as a datum,and how a world may evolve. No program text.
-/
namespace Go.Ab
open Go Go.RowKit
inductive D where
 | bool (b:Bool)
 | int (k:IntKind) (n:Int)
 | str (s:List UInt8)
 | slice (k:Nat) (tok:Option Nat) (nil:Bool) (rows:List (List D))
 | arr (k id:Nat) (nl:Bool) (len:Nat)
 | je (id m off:Nat)
 | eV
 | ptr (id off:Nat)
 | view (cells:List D)
 | qw
 | map (id:Nat)
 | nilFunc
 | func (f:FuncId) (ck:List D)
 | kQ (f:FuncId) (bs:List D)
 | yield (l:Nat)
 | wG
 | nilIface
 | iface (t:TypeId) (x:D)
 deriving Inhabited
inductive A where
 | d (x:D)
 | agg (xs:List D)
 deriving Inhabited
inductive V where
 | any
 | a (x:A)
 | cZ (i off:Nat)
 | cF (xs:List A)
 | gd (c:Bool) (x:A)
 | gr (c:Bool) (i off:Nat)
 | full (k:Nat) (rows:List (List D))
 | qx (c:Bool) (k:Nat) (rows:List (List D))
 deriving Inhabited
inductive Obj where
 | cells (xs:List D)
 | map (es:List (D×A))
 | tok (k m:Nat) (E:Option TypeId:=none)
 | arr (k:Nat) (rows:List (List D))
 | fix (b:Nat) (o:Go.Obj)
 | wH (T:TypeId) (xs:List D)
 | dD (b:Nat) (o:Go.Obj)
abbrev ai:=Nat->Option Obj
def ai.set (h:ai) (i:Nat) (o:Option Obj):ai:=fun n=>if n=i then o else h n
structure Tk where
 eD:Option (Nat×Nat)
 m:Nat
structure J where
 out:Nat->Nat
 F:Nat->Nat
 tok:Nat->Option Tk
 next:Nat
inductive aY {α β:Type}(R:α->β->Prop):List α->List β->Prop where
 | nil:aY R [] []
 | cons {a b l m} (h:R a b) (t:aY R l m):aY R (a::l) (b::m)
theorem aY.imp {α β:Type}{R S:α->β->Prop}(h:∀a b,R a b->S a b){l:List α}{m:List β}(hl:aY R l m):aY S l m:=by
 induction hl with
 | nil=>exact .nil
 | cons x _ f=>exact .cons (h _ _ x) f
theorem aY.length {α β:Type}{R:α->β->Prop}{l:List α}{m:List β}(h:aY R l m):l.length=m.length:=by
 induction h with
 | nil=>rfl
 | cons _ _ b=>simp [b]
theorem aY.get {α β:Type}{R:α->β->Prop}{l:List α}{m:List β}(h:aY R l m):∀{i:Nat}{x:α},l[i]?=some x->∃y,m[i]?=some y/\R x y:=by
 induction h with
 | nil=>intro i x hx; simp at hx
 | cons hh _ b =>
  intro i x hx;cases i with
  | zero=>simp at hx; subst hx; exact⟨_,rfl,hh⟩
  | succ i=>simp at hx; simpa using b hx
theorem aY.get' {α β:Type}{R:α->β->Prop}{l:List α}{m:List β}(h:aY R l m):∀{i:Nat}{y:β},m[i]?=some y->∃x,l[i]?=some x/\R x y:=by
 induction h with
 | nil=>intro i x hx; simp at hx
 | cons hh _ b =>
  intro i x hx;cases i with
  | zero=>simp at hx; subst hx; exact⟨_,rfl,hh⟩
  | succ i=>simp at hx; simpa using b hx
theorem aY.jN {α β:Type}{R:α->β->Prop}:∀{l:List α}{m:List β},l.length=m.length->(∀(i:Nat) x y,l[i]?=some x->m[i]?=some y->R x y)->aY R l m
 | [],[],_,_=>.nil
 | [],_::_,h,_=>by simp at h
 | _::_,[],h,_=>by simp at h
 | a::l,b::m,h,hr=>.cons (hr 0 a b rfl rfl) (aY.jN (by simpa using h) fun i x y hx f=>hr (i+1) x y (by simpa using hx) (by simpa using f))
theorem aY.append {α β:Type}{R:α->β->Prop}{l l':List α}{m m':List β}(h:aY R l m) (h':aY R l' m'):aY R (l++l') (m++m'):=by
 induction h with
 | nil=>exact h'
 | cons x _ b=>exact .cons x b
theorem aY.set {α β:Type}{R:α->β->Prop}{l:List α}{m:List β}(h:aY R l m){a:α}{b:β}(hr:R a b) (i:Nat):aY R (l.set i a) (m.set i b):=by
 induction h generalizing i with
 | nil=>exact .nil
 | cons x t f =>
  cases i with
  | zero=>exact .cons hr t
  | succ i=>exact .cons x (f i)
theorem aY.take {α β:Type}{R:α->β->Prop}{l:List α}{m:List β}(h:aY R l m) (n:Nat):aY R (l.take n) (m.take n):=by
 induction h generalizing n with
 | nil=>simp; exact .nil
 | cons x t b =>
  cases n with
  | zero=>exact .nil
  | succ n=>exact .cons x (b n)
theorem aY.drop {α β:Type}{R:α->β->Prop}{l:List α}{m:List β}(h:aY R l m) (n:Nat):aY R (l.drop n) (m.drop n):=by
 induction h generalizing n with
 | nil=>simp; exact .nil
 | cons x t b =>
  cases n with
  | zero=>exact .cons x t
  | succ n=>exact b n
def cS:Nat:=140737488355328
def eW:Nat:=4611686018427387904
def sr (j:J) (tok:Option Nat) (n:Nat) (a:Addr) (cap:Nat):Prop :=
 ∀t,tok=some t->t<j.next/\∀k,j.tok t=some k->n<=k.m/\(n=k.m->(k.eD=none/\cap=n)\/∃b,k.eD=some (b,cap)/\a=⟨b,0,none⟩)
def wI (j:J) (id:Nat) (nl:Bool) (len:Nat) (a:Option Addr) (cap:Nat):Prop :=
 ∀tk,j.tok id=some tk->len<=tk.m/\(len=tk.m->(tk.eD=none/\nl=a.isNone/\cap=0)\/∃b,tk.eD=some (b,cap)/\a=some ⟨b,0,none⟩/\nl=false)
def At (j:J) (w:World) (a:Addr) (n:Nat) (cv:Nat->Value):Prop :=
 a.spot=none/\∀i,i<n->a.off+i<j.F a.block/\w.cell? ⟨a.block,a.off+i,none⟩=some (cv i)
def qy (j:J) (w:World) (a:Addr) (rows:List (List D)) (cv:Nat->Value):Prop :=
 (rows=[]\/a.spot=none)/\∀i,i<rows.flatten.length->a.off+i<j.F a.block/\w.cell? ⟨a.block,a.off+i,none⟩=some (cv i)
inductive aI (j:J) (w:World):D->Value->Prop
 | bool (b:Bool):aI j w (.bool b) (.bool b)
 | int (k:IntKind) (n:Int):aI j w (.int k n) (.int k n)
 | str (s:List UInt8) (h:s.length<=eW):aI j w (.str s) (.string ⟨s.toArray⟩)
 | f_ (k:Nat) (tok:Option Nat) (ht:∀t,tok=some t->t<j.next):aI j w (.slice k tok true []) (.slice none 0 0)
 | slice (k:Nat) (tok:Option Nat) (rows:List (List D)) (a:Addr) (cap:Nat) (cv:Nat->Value)
   (hk:∀r∈rows,r.length=k) (hn:rows.length<=cS) (hc:rows.length<=cap)
   (bR:qy j w a rows cv) (hr:∀i (h:i<rows.flatten.length),aI j w rows.flatten[i] (cv i))
   (ht:sr j tok rows.length a cap):aI j w (.slice k tok false rows) (.slice (some a) rows.length cap)
 | arr (k id:Nat) (nl:Bool) (len:Nat) (a:Option Addr) (cap:Nat) (hid:id<j.next) (hv:wI j id nl len a cap):aI j w (.arr k id nl len) (.slice a len cap)
 | je (id m off b:Nat) (hid:id<j.next) (hv:∀tk,j.tok id=some tk->m<=tk.m/\(m=tk.m->∃c,tk.eD=some (b,c))):aI j w (.je id m off) (.pointer (some ⟨b,off,none⟩))
 | eV:aI j w .eV (.pointer none)
 | ptr (id off:Nat) (h:id<j.next):aI j w (.ptr id off) (.pointer (some ⟨j.out id,off,none⟩))
 | view (cells:List D) (a:Addr) (cv:Nat->Value) (bR:At j w a cells.length cv) (hr:∀i (h:i<cells.length),aI j w cells[i] (cv i)) :
   aI j w (.view cells) (.pointer (some a))
 | qw:aI j w .qw (.map none)
 | map (id b:Nat) (hid:id<j.next) (hv:∀tk,j.tok id=some tk->1<=tk.m/\(tk.m=1->∃c,tk.eD=some (b,c))):aI j w (.map id) (.map (some b))
 | nilFunc:aI j w .nilFunc .nilFunc
 | func (f:FuncId) (ck:List D) (jO:List Value) (hl:ck.length=jO.length) (hr:∀i (h:i<ck.length) (h':i<jO.length),aI j w ck[i] jO[i]) :
   aI j w (.func f ck) (.func (.func f) #[] jO.toArray)
 | kQ (f:FuncId) (bs:List D) (jP:List Value) (hl:bs.length=jP.length) (hr:∀i (h:i<bs.length) (h':i<jP.length),aI j w bs[i] jP[i]) :
   aI j w (.kQ f bs) (.func (.func f) jP.toArray #[])
 | yield (l:Nat):aI j w (.yield l) (.func (.yield l) #[] #[])
 | wG (t:Fn) (b c:Array Value):aI j w .wG (.func t b c)
 | nilIface:aI j w .nilIface .nilIface
 | iface (t:TypeId) (x:D) (v:Value) (h:aI j w x v):aI j w (.iface t x) (.iface t v)
def de (j:J) (w:World):A->Value->Prop
 | .d x,v=>aI j w x v
 | .agg xs,v=>∃cs:List Value,v=.agg cs.toArray/\aY (aI j w) xs cs
def bz (j:J) (w:World) (jl:List Nat):V->Value->Prop
 | .any,_=>True
 | .a x,v=>de j w x v
 | .cZ i off,v=>∃b,jl[i]?=some b/\v=.pointer (some ⟨b,off,none⟩)
 | .cF xs,v=>∃cs:List Value,v=.tuple cs.toArray/\aY (de j w) xs cs
 | .gd c x,v=>(c=true->de j w x v)/\(c=false->v=.tuple #[])
 | .gr c i off,v=>(c=true->∃b,jl[i]?=some b/\v=.pointer (some ⟨b,off,none⟩))/\(c=false->v=.tuple #[])
 | .qx c k rows,v=>(c=true->aI j w (.slice k none false rows) v/\∃a,v=.slice (some a) rows.length rows.length)/\(c=false->v=.tuple #[])
 | .full k rows,v=>aI j w (.slice k none false rows) v/\∃a,v=.slice (some a) rows.length rows.length
structure Le (j:J) (w:World) (j':J) (w':World):Prop where
 next:j.next<=j'.next
 out:∀id,id<j.next->j'.out id=j.out id
 F:∀b,j.F b<=j'.F b
 data:∀b o,o<j.F b->w'.cell? ⟨b,o,none⟩=w.cell? ⟨b,o,none⟩
 tok:∀t,t<j.next->j'.tok t=j.tok t\/∃k k',j.tok t=some k/\j'.tok t=some k'/\k.m<k'.m
theorem Le.refl (j:J) (w:World):Le j w j w:=⟨Nat.le_refl _,fun _ _=>rfl,fun _=>Nat.le_refl _,fun _ _ _=>rfl,fun _ _=>.inl rfl⟩
theorem Le.trans {j g i:J}{w l m:World}(h:Le j w g l) (h':Le g l i m):Le j w i m:=by
 refine⟨Nat.le_trans h.next h'.next,fun id hi=>(h'.out id (Nat.lt_of_lt_of_le hi h.next)).trans (h.out id hi),fun b=>Nat.le_trans (h.F b) (h'.F b),
  fun b o p=>(h'.data b o (Nat.lt_of_lt_of_le p (h.F b))).trans (h.data b o p),fun t ht=>?_⟩
 rcases h'.tok t (Nat.lt_of_lt_of_le ht h.next) with e|⟨k,k',e,q,bw⟩
 ·rw [e]; exact h.tok t ht
 ·rcases h.tok t ht with f|⟨u,v,f,r,s⟩
  ·exact .inr ⟨k,k',f▸e,q,bw⟩
  ·rw [r] at e;simp only [Option.some.injEq] at e;subst e;exact .inr ⟨_,_,f,q,Nat.lt_trans s bw⟩
theorem sr.mono {j j':J}{w w':World}(hle:Le j w j' w'){tok:Option Nat}{n:Nat}{a:Addr}{cap:Nat}(h:sr j tok n a cap):sr j' tok n a cap:=by
 intro t ht;obtain⟨h1,b⟩:=h t ht;refine⟨Nat.lt_of_lt_of_le h1 hle.next,fun k hk=>?_⟩;rcases hle.tok t h1 with e|⟨g,k',e,f,bw⟩
 ·rw [e] at hk; exact b k hk
 ·rw [f] at hk;simp only [Option.some.injEq] at hk;subst hk;have:=(b _ e).1;exact⟨by omega,fun h=>by omega⟩
theorem wI.mono {j j':J}{w w':World}(hle:Le j w j' w'){id:Nat}{nl:Bool}{len:Nat}{a:Option Addr}{cap:Nat}(hid:id<j.next) (h:wI j id nl len a cap):wI j' id nl len a cap:=by
 intro tk hk;rcases hle.tok id hid with e|⟨f,k',e,b,bw⟩
 ·rw [e] at hk; exact h tk hk
 ·rw [b] at hk;simp only [Option.some.injEq] at hk;subst hk;have:=(h _ e).1;exact⟨by omega,fun h=>by omega⟩
theorem At.mono {j j':J}{w w':World}(hle:Le j w j' w'){a:Addr}{n:Nat}{cv:Nat->Value}(h:At j w a n cv):At j' w' a n cv :=
 ⟨h.1,fun i hi=>⟨Nat.lt_of_lt_of_le (h.2 i hi).1 (hle.F _),(hle.data _ _ (h.2 i hi).1).trans (h.2 i hi).2⟩⟩
theorem qy.mono {j j':J}{w w':World}(hle:Le j w j' w'){a:Addr}{rows:List (List D)}{cv:Nat->Value}(h:qy j w a rows cv):qy j' w' a rows cv :=
 ⟨h.1,fun i hi=>⟨Nat.lt_of_lt_of_le (h.2 i hi).1 (hle.F _),(hle.data _ _ (h.2 i hi).1).trans (h.2 i hi).2⟩⟩
theorem aI.mono {j j':J}{w w':World}(hle:Le j w j' w'){x:D}{v:Value}(h:aI j w x v):aI j' w' x v:=by
 induction h with
 | bool b=>exact .bool b
 | int k n=>exact .int k n
 | str s h=>exact .str s h
 | f_ k tok ht=>exact .f_ k tok fun t h=>Nat.lt_of_lt_of_le (ht t h) hle.next
 | slice k tok rows a cap cv hk hn hc bR hr ht g=>exact .slice k tok rows a cap cv hk hn hc (bR.mono hle) g (ht.mono hle)
 | arr k id nl len a cap hid hv=>exact .arr k id nl len a cap (Nat.lt_of_lt_of_le hid hle.next) (hv.mono hle hid)
 | je id m off b hid hv =>
  refine .je id m off b (Nat.lt_of_lt_of_le hid hle.next) fun tk hk=>?_;rcases hle.tok id hid with e|⟨o,k',e,i,bw⟩
  ·rw [e] at hk; exact hv tk hk
  ·rw [i] at hk;simp only [Option.some.injEq] at hk;subst hk;have:=(hv _ e).1;exact⟨by omega,fun h=>by omega⟩
 | eV=>exact .eV
 | ptr id off h =>
  rw [<- hle.out id h];exact .ptr id off (Nat.lt_of_lt_of_le h hle.next)
 | view cells a cv bR hr g=>exact .view cells a cv (bR.mono hle) g
 | qw=>exact .qw
 | map id b hid hv =>
  refine .map id b (Nat.lt_of_lt_of_le hid hle.next) fun tk hk=>?_;rcases hle.tok id hid with e|⟨o,k',e,i,bw⟩
  ·rw [e] at hk; exact hv tk hk
  ·rw [i] at hk;simp only [Option.some.injEq] at hk;subst hk;have:=(hv _ e).1;exact⟨by omega,fun h=>by omega⟩
 | nilFunc=>exact .nilFunc
 | func f ck jO hl hr g=>exact .func f ck jO hl g
 | kQ f bs jP hl hr g=>exact .kQ f bs jP hl g
 | yield l=>exact .yield l
 | wG t b c=>exact .wG t b c
 | nilIface=>exact .nilIface
 | iface t x v h g=>exact .iface t x v g
theorem de.mono {j j':J}{w w':World}(hle:Le j w j' w'){x:A}{v:Value}(h:de j w x v):de j' w' x v:=by
 cases x with
 | d x=>exact aI.mono hle h
 | agg xs=>obtain⟨cs,e,h⟩:=h; exact⟨cs,e,h.imp fun _ _ h=>h.mono hle⟩
def Ext (jl f:List Nat):Prop:=∀(i b:Nat),jl[i]?=some b->f[i]?=some b
theorem Ext.refl (jl:List Nat):Ext jl jl:=fun _ _ h=>h
theorem bz.mono {j j':J}{w w':World}(hle:Le j w j' w'){jl g:List Nat}(hx:Ext jl g){x:V}{v:Value}(h:bz j w jl x v):bz j' w' g x v:=by
 cases x with
 | any=>trivial
 | a x=>exact de.mono hle h
 | cZ i off=>obtain⟨b,f,e⟩:=h; exact⟨b,hx i b f,e⟩
 | cF xs=>obtain⟨cs,e,h⟩:=h; exact⟨cs,e,h.imp fun _ _ h=>h.mono hle⟩
 | gd c x=>exact⟨fun hc=>de.mono hle (h.1 hc),h.2⟩
 | gr c i off=>exact⟨fun hc=>let ⟨b,f,e⟩:=h.1 hc; ⟨b,hx i b f,e⟩,h.2⟩
 | full k rows=>exact⟨h.1.mono hle,h.2⟩
 | qx c k rows=>exact⟨fun hc=>⟨(h.1 hc).1.mono hle,(h.1 hc).2⟩,h.2⟩
def bS (j:J) (id:Nat):Obj->Option Nat
 | .tok _ _ _=>(j.tok id).bind fun k=>k.eD.map (·.1)
 | .arr _ _=>(j.tok id).bind fun k=>k.eD.map (·.1)
 | .map _=>(j.tok id).bind fun k=>k.eD.map (·.1)
 | .fix b _=>some b
 | .dD b _=>some b
 | _=>some (j.out id)
def jf (j:J) (w:World) (e:D×A) (m:MapEntry):Prop:=aI j w e.1 m.key/\de j w e.2 m.val
def kR (b:List MapEntry) (br:Nat):Prop:=(b.map (·.born)).Nodup/\(∀m∈b,m.born<br)/\(b.map (·.key)).Nodup
def gu (j:J) (w:World) (id:Nat):Obj->Prop
 | .cells xs=>∃(cs:List Value) (e:TypeId),w.heap[j.out id]?=some (.cells cs.toArray e (0,0))/\aY (aI j w) xs cs/\j.F (j.out id)=0
 | .map es=>∃(b c:Nat) (f:List MapEntry) (br:Nat),j.tok id=some ⟨some (b,c),1⟩/\w.heap[b]?=some (.map f.toArray br)/\aY (jf j w) es f/\j.F b=0/\kR f br
 | .wH T xs=>∃cs:List Value,w.heap[j.out id]?=some (.cells cs.toArray T (0,0))/\aY (aI j w) xs cs/\j.F (j.out id)=0
 | .tok k m E=>∃eD,j.tok id=some ⟨eD,m⟩/\(∀b cap,eD=some (b,cap)->∃(cs:Array Value) (e:TypeId),w.heap[b]?=some (.cells cs e (0,0))/\cs.size=cap*k/\j.F b=m*k/\m<=cap/\∀T,E=some T->e=T)/\(E.isSome=true->eD=none->m=0)
 | .fix b o=>w.heap[b]?=some o
 | .dD b o=>∃c,j.tok id=some ⟨some (b,c),1⟩/\w.heap[b]?=some o/\j.F b=0
 | .arr k rows=>∃eD,j.tok id=some ⟨eD,rows.length⟩/\(eD=none↔rows=[])/\(∀r∈rows,r.length=k)/\rows.length<=cS/\∀b cap,eD=some (b,cap) ->
   ∃(cs:List Value) (e:TypeId),w.heap[b]?=some (.cells cs.toArray e (0,0))/\cs.length=cap*k/\j.F b=0/\rows.length<=cap/\aY (aI j w) rows.flatten (cs.take (rows.length*k))
def Obj.tokd:Obj->Bool
 | .tok _ _ _=>true
 | .arr _ _=>true
 | .map _=>true
 | .fix _ _=>true
 | .dD _ _=>true
 | _=>false
def aV (j:J) (h:ai) (jl:List Nat) (b:Nat):Prop:=b∈jl\/∃id o,h id=some o/\bS j id o=some b
structure e9 (j:J) (w:World) (h:ai):Prop where
 obj:∀id o,h id=some o->id<j.next/\gu j w id o
 inj:∀jg o1 jh o2 b,h jg=some o1->h jh=some o2->bS j jg o1=some b->bS j jh o2=some b->jg=jh
 fresh:∀b,w.heap.size<=b->j.F b=0
def kS (j:J) (w:World) (b:Nat) (xs:List D):Prop:=∃(cs:List Value) (e:TypeId),w.heap[b]?=some (.cells cs.toArray e (0,0))/\aY (aI j w) xs cs/\j.F b=0
structure Lg (j:J) (w:World) (h:ai) (ls:List (List D)) (jl:List Nat):Prop where
 each:aY (fun xs b=>kS j w b xs) ls jl
 nodup:jl.Nodup
 apart:∀b,b∈jl->¬aV j h [] b
class bK where
 Lh:Prop
abbrev bK.on:bK:=⟨True⟩
abbrev bK.off:bK:=⟨False⟩
variable {ax:bK}
def fS [bK] (w w':World):Prop:=w'.output=w.output/\(w.drawn<=w'.drawn\/bK.Lh)
theorem fS.rfl {w w':World}(h1:w'.output=w.output:=by first|rfl|simp) (b:w.drawn<=w'.drawn:=by first|exact Nat.le_refl _|exact Nat.le_succ _|simp):fS w w':=⟨h1,.inl b⟩
theorem fS.trans {w f g:World}(h':fS f g) (h:fS w f):fS w g:=⟨h'.1.trans h.1,h.2.elim (fun a=>h'.2.elim (fun b=>.inl (Nat.le_trans a b)) .inr) .inr⟩
structure bV [bK] (j:J) (w:World) (O:Nat->Prop) (j':J) (w':World) (O':Nat->Prop):Prop extends Le j w j' w' where
 size:w.heap.size<=w'.heap.size
 frame:∀b,b<w.heap.size->¬O b->w'.heap[b]?=w.heap[b]?/\j'.F b=j.F b
 own:∀b,b<w.heap.size->O' b->O b
 os:w'.os=w.os
 tape:w'.tape=w.tape
 output:fS w w'
theorem bV.refl (j:J) (w:World) (O:Nat->Prop):bV j w O j w O :=
 ⟨Le.refl _ _,Nat.le_refl _,fun _ _ _=>⟨rfl,rfl⟩,fun _ _ h=>h,rfl,rfl,fS.rfl⟩
theorem bV.trans {j i k:J}{w l m:World}{O o O2:Nat->Prop}(h:bV j w O i l o) (h':bV i l o k m O2):bV j w O k m O2:=by
 refine⟨h.toLe.trans h'.toLe,Nat.le_trans h.size h'.size,fun b f g=>?_,fun b f g=>h.own b f (h'.own b (Nat.lt_of_lt_of_le f h.size) g),h'.os.trans h.os,h'.tape.trans h.tape,h'.output.trans h.output⟩;have h1:=h.frame b f g;have p:=h'.frame b (Nat.lt_of_lt_of_le f h.size) (fun q=>g (h.own b f q));exact⟨p.1.trans h1.1,p.2.trans h1.2⟩
theorem bV.drew (j:J) (w:World) (O:Nat->Prop):bV j w O j w.drew O :=
 ⟨⟨Nat.le_refl _,fun _ _=>rfl,fun _=>Nat.le_refl _,fun _ _ _=>rfl,fun _ _=>.inl rfl⟩,Nat.le_refl _,fun _ _ _=>⟨rfl,rfl⟩,fun _ _ h=>h,rfl,rfl,fS.rfl⟩
theorem bV.drop {j j':J}{w w':World}{O O' f:Nat->Prop}(h:bV j w O j' w' O') (g:∀b,f b->O' b):bV j w O j' w' f :=
 { h with own:=fun b i h'=>h.own b i (g b h') }
def V.under (c:Bool):V->V
 | .a x=>.gd c x
 | .cZ i off=>.gr c i off
 | .full k rows=>.qx c k rows
 | _=>.any
theorem V.Ej {j:J}{w:World}{jl:List Nat}{x:V}{v:Value}(h:bz j w jl x v):bz j w jl (x.under true) v:=by
 cases x with
 | a x=>exact⟨fun _=>h,fun e=>by cases e⟩
 | cZ i off=>exact⟨fun _=>h,fun e=>by cases e⟩
 | full k rows=>exact⟨fun _=>h,fun e=>by cases e⟩
 | _=>trivial
theorem V.Ek {j:J}{w:World}{jl:List Nat}(x:V):bz j w jl (x.under false) (.tuple #[]):=by
 cases x with
 | a x=>exact⟨(fun e=>by cases e),fun _=>rfl⟩
 | cZ i off=>exact⟨(fun e=>by cases e),fun _=>rfl⟩
 | full k rows=>exact⟨(fun e=>by cases e),fun _=>rfl⟩
 | _=>trivial
end Go.Ab
/-
 How the steps of the model change the abstract state: a new block of data,a new object,a new local,a store,an append.
-/
namespace Go.Ab
open Go Go.RowKit
variable {ax:bK}
def HL (j:J) (w:World) (jl:List Nat) (ls:List (List D)) (h:ai):Prop:=e9 j w h/\Lg j w h ls jl
theorem ji {w:World}{b:Nat}{o:Go.Obj}(h:w.heap[b]?=some o):b<w.heap.size:=by
 rcases Nat.lt_or_ge b w.heap.size with h'|h'
 ·exact h'
 ·rw [Array.getElem?_eq_none h'] at h; simp at h
theorem gu.Li {j:J}{w:World}{id:Nat}{o:Obj}(h:gu j w id o){b:Nat}(f:bS j id o=some b):b<w.heap.size:=by
 cases o with
 | cells xs=>obtain⟨cs,e,hh,_⟩:=h; simp only [bS,Option.some.injEq] at f; subst f; exact ji hh
 | wH T xs=>obtain⟨cs,hh,_⟩:=h; simp only [bS,Option.some.injEq] at f; subst f; exact ji hh
 | fix b' o=>simp only [bS,Option.some.injEq] at f; subst f; exact ji h
 | dD b' o=>obtain⟨c,_,hh,_⟩:=h; simp only [bS,Option.some.injEq] at f; subst f; exact ji hh
 | map es =>
  obtain⟨b',c,i,br,ht,hh,_⟩:=h;simp only [bS,ht,Option.bind_some,Option.map_some,Option.some.injEq] at f;subst f; exact ji hh
 | tok k m E =>
  obtain⟨eD,ht,hh,_⟩:=h;simp only [bS,ht,Option.bind_some] at f;cases eD with
  | none=>simp at f
  | some g =>
   obtain⟨b',cap⟩:=g;simp only [Option.map_some,Option.some.injEq] at f;subst f;obtain⟨cs,e,hh,_⟩:=hh _ _ rfl;exact ji hh
 | arr k rows =>
  obtain⟨eD,ht,_,_,_,hh⟩:=h;simp only [bS,ht,Option.bind_some] at f;cases eD with
  | none=>simp at f
  | some g =>
   obtain⟨b',cap⟩:=g;simp only [Option.map_some,Option.some.injEq] at f;subst f;obtain⟨cs,e,hh,_⟩:=hh _ _ rfl;exact ji hh
theorem aV.lt {j:J}{w:World}{jl:List Nat}{ls:List (List D)}{h:ai}(hl:HL j w jl ls h){b:Nat}(f:aV j h jl b):b<w.heap.size:=by
 rcases f with hm|⟨id,o,hi,g⟩
 ·obtain⟨i,hi⟩:=List.getElem?_of_mem hm;obtain⟨xs,_,cs,e,hh,_⟩:=hl.2.each.get' hi;exact ji hh
 ·exact(hl.1.obj id o hi).2.Li g
theorem jf.mono {j j':J}{w w':World}(hle:Le j w j' w'){e:D×A}{m:MapEntry}(h:jf j w e m):jf j' w' e m:=⟨h.1.mono hle,h.2.mono hle⟩
theorem gu.keep {j j':J}{w w':World}(hle:Le j w j' w'){id:Nat}{o:Obj}(hid:id<j.next) (h:gu j w id o)
  (l:∀b,bS j id o=some b->w'.heap[b]?=w.heap[b]?/\j'.F b=j.F b) (ht:o.tokd=true->j'.tok id=j.tok id):gu j' w' id o/\bS j' id o=bS j id o:=by
 cases o with
 | cells xs =>
  obtain⟨cs,e,hh,hx,p⟩:=h;obtain⟨f,g⟩:=l _ rfl;have q:=hle.out id hid;exact⟨⟨cs,e,by rw [q,f]; exact hh,hx.imp fun _ _ h=>h.mono hle,by rw [q,g]; exact p⟩,by simp [bS,q]⟩
 | wH T xs =>
  obtain⟨cs,hh,hx,p⟩:=h;obtain⟨f,g⟩:=l _ rfl;have q:=hle.out id hid;exact⟨⟨cs,by rw [q,f]; exact hh,hx.imp fun _ _ h=>h.mono hle,by rw [q,g]; exact p⟩,by simp [bS,q]⟩
 | fix b o =>
  obtain⟨f,_⟩:=l b rfl;exact⟨f.trans h,rfl⟩
 | dD b o =>
  obtain⟨c,s,hh,p⟩:=h;have i:=ht rfl;obtain⟨f,g⟩:=l b rfl;exact⟨⟨c,by rw [i]; exact s,f.trans hh,by rw [g]; exact p⟩,rfl⟩
 | map es =>
  obtain⟨b,c,y,br,s,hh,hx,p,hB⟩:=h;have i:=ht rfl;obtain⟨f,g⟩:=l b (by simp [bS,s]);exact⟨⟨b,c,y,br,by rw [i]; exact s,by rw [f]; exact hh,hx.imp fun _ _ h=>h.mono hle,by rw [g]; exact p,hB⟩,by simp [bS,i]⟩
 | tok k m E =>
  obtain⟨eD,e,hh,z⟩:=h;have i:=ht rfl;refine⟨⟨eD,by rw [i]; exact e,fun b cap r=>?_,z⟩,by simp [bS,i]⟩;obtain⟨cs,ty,h1,t,u,v,x⟩:=hh b cap r;obtain⟨f,g⟩:=l b (by simp [bS,e,r]);exact⟨cs,ty,by rw [f]; exact h1,t,by rw [g]; exact u,v,x⟩
 | arr k rows =>
  obtain⟨eD,e,g2,g3,g4,hh⟩:=h;have i:=ht rfl;refine⟨⟨eD,by rw [i]; exact e,g2,g3,g4,fun b cap r=>?_⟩,by simp [bS,i]⟩;obtain⟨cs,ty,h1,t,u,v,x⟩:=hh b cap r;obtain⟨f,g⟩:=l b (by simp [bS,e,r]);exact⟨cs,ty,by rw [f]; exact h1,t,by rw [g]; exact u,v,x.imp fun _ _ h=>h.mono hle⟩
theorem kS.keep {j j':J}{w w':World}(hle:Le j w j' w'){b:Nat}{xs:List D}(h:kS j w b xs) (f:w'.heap[b]?=w.heap[b]?/\j'.F b=j.F b):kS j' w' b xs:=by
 obtain⟨cs,e,hh,hx,g⟩:=h;exact⟨cs,e,by rw [f.1]; exact hh,hx.imp fun _ _ h=>h.mono hle,by rw [f.2]; exact g⟩
theorem oP {α β:Type}{R S:α->β->Prop}{l:List α}{m:List β}(hl:aY R l m) (h:∀a b,b∈m->R a b->S a b):aY S l m:=by
 induction hl with
 | nil=>exact .nil
 | cons x _ f=>exact .cons (h _ _ (by simp) x) (f fun a b g=>h a b (by simp [g]))
theorem HL.keep {j j':J}{w w':World}{jl:List Nat}{ls:List (List D)}{h:ai}(hl:HL j w jl ls h) (hle:Le j w j' w')
  (f:∀b,aV j h jl b->w'.heap[b]?=w.heap[b]?/\j'.F b=j.F b) (ht:∀id,id<j.next->(∃o,h id=some o/\o.tokd=true)->j'.tok id=j.tok id)
  (k:∀b,w'.heap.size<=b->j'.F b=0):HL j' w' jl ls h/\∀b,aV j' h jl b↔aV j h jl b:=by
 have key:∀id o,h id=some o->gu j' w' id o/\bS j' id o=bS j id o:=fun id o hi =>
  (hl.1.obj id o hi).2.keep hle (hl.1.obj id o hi).1 (fun b e=>f b (.inr ⟨id,o,hi,e⟩)) (fun e=>ht id (hl.1.obj id o hi).1 ⟨o,hi,e⟩)
 have g:∀jl b,aV j' h jl b↔aV j h jl b:=by
  intro jl b;constructor
  ·rintro (hm|⟨id,o,hi,e⟩)
   ·exact .inl hm
   ·exact .inr ⟨id,o,hi,(key id o hi).2▸e⟩
  ·rintro (hm|⟨id,o,hi,e⟩)
   ·exact .inl hm
   ·exact .inr ⟨id,o,hi,(key id o hi).2.symm▸e⟩
 refine⟨⟨⟨fun id o hi=>⟨Nat.lt_of_lt_of_le (hl.1.obj id o hi).1 hle.next,(key id o hi).1⟩,fun jg o1 jh o2 b h1 i l m=>?_,k⟩,
  ⟨oP hl.2.each fun xs b hm h=>h.keep hle (f b (.inl hm)),hl.2.nodup,fun b hm p=>hl.2.apart b hm ((g [] b).1 p)⟩⟩,g jl⟩
 exact hl.1.inj jg o1 jh o2 b h1 i ((key jg o1 h1).2▸l) ((key jh o2 i).2▸m)
theorem HL.drew {j:J}{w:World}{jl:List Nat}{ls:List (List D)}{h:ai}(hl:HL j w jl ls h):HL j w.drew jl ls h :=
 (hl.keep (@bV.toLe bK.off _ _ _ _ _ _ (@bV.drew bK.off j w (aV j h jl))) (fun _ _=>⟨rfl,rfl⟩) (fun _ _ _=>rfl) hl.1.fresh).1
theorem uH {w:World}{o:Go.Obj}{b:Nat}(h:b<w.heap.size):(w.alloc o).heap[b]?=w.heap[b]?:=by
 show (w.heap.push o)[b]?=_;rw [Array.getElem?_push,if_neg (by omega)]
def J.eP (j:J) (b n:Nat):J:={ j with F:=fun x=>if x=b then n else j.F x }
theorem Le.alloc {j:J}{w:World}{o:Go.Obj}(f:∀b,w.heap.size<=b->j.F b=0) (n:Nat):Le j w (j.eP w.heap.size n) (w.alloc o):=by
 refine⟨Nat.le_refl _,fun _ _=>rfl,fun b=>?_,fun b o' g=>?_,fun _ _=>.inl rfl⟩
 ·simp only [J.eP]
  split
  ·rename_i e; rw [f b (by omega)]; exact Nat.zero_le _
  ·exact Nat.le_refl _
 ·have i:b<w.heap.size:=by
   rcases Nat.lt_or_ge b w.heap.size with h|h
   ·exact h
   ·rw [f b h] at g; omega
  exact World.cell?_alloc_lt w _ _ i
theorem HL.data {j:J}{w:World}{jl:List Nat}{ls:List (List D)}{h:ai}(hl:HL j w jl ls h) (o:Go.Obj) (n:Nat) :
  HL (j.eP w.heap.size n) (w.alloc o) jl ls h/\bV j w (aV j h jl) (j.eP w.heap.size n) (w.alloc o) (aV (j.eP w.heap.size n) h jl):=by
 have hle:=Le.alloc (o:=o) hl.1.fresh n;have h1:∀b,b<w.heap.size->(w.alloc o).heap[b]?=w.heap[b]?/\(j.eP w.heap.size n).F b=j.F b:=fun b f =>
  ⟨uH f,by simp only [J.eP]; rw [if_neg (by omega)]⟩
 have hk:=hl.keep hle (fun b g=>h1 b (g.lt hl)) (fun _ _ _=>rfl) (fun b f=>by
  simp only [World.size_alloc] at f;simp only [J.eP]; rw [if_neg (by omega)]; exact hl.1.fresh b (by omega))
 exact⟨hk.1,{ toLe:=hle,size:=by simp,frame:=fun b f _=>h1 b f,own:=fun b _ g=>(hk.2 b).1 g,os:=rfl,tape:=rfl,output:=fS.rfl }⟩
theorem J.uI {j:J}{b:Nat}(h:j.F b=0):j.eP b 0=j:=by
 unfold J.eP;have:(fun x=>if x=b then 0 else j.F x)=j.F:=by
  funext x; split
  ·rename_i e; rw [e,h]
  ·rfl
 rw [this]
theorem HL.loc {j:J}{w:World}{jl:List Nat}{ls:List (List D)}{h:ai}(hl:HL j w jl ls h) (cs:List Value) (e:TypeId) (xs:List D) (hx:aY (aI j w) xs cs) :
  HL j (w.alloc (.cells cs.toArray e)) (jl++[w.heap.size]) (ls++[xs]) h/\bV j w (aV j h jl) j (w.alloc (.cells cs.toArray e)) (aV j h (jl++[w.heap.size])):=by
 have i:=hl.data (ax:=ax) (.cells cs.toArray e) 0;rw [J.uI (hl.1.fresh _ (Nat.le_refl _))] at i;obtain⟨hk,k⟩:=i;have l:∀b,b∈jl->b<w.heap.size:=fun b g=>(aV.lt hl (.inl g));refine⟨⟨hk.1,⟨hk.2.each.append (.cons ⟨cs,e,heap_alloc_new w _,hx.imp fun _ _ h=>h.mono k.toLe,hl.1.fresh _ (Nat.le_refl _)⟩ .nil), ?_,fun b g f=>?_⟩⟩, ?_⟩
 ·rw [List.nodup_append];refine⟨hk.2.nodup,by simp,fun a m b g=>?_⟩;simp at g; subst g;have:=l a m; omega
 ·rcases List.mem_append.1 g with g|g
  ·exact hk.2.apart b g f
  ·simp at g; subst g;have:w.heap.size<w.heap.size:=by
    rcases f with f|⟨id,o,hi,e⟩
    ·simp at f
    ·exact aV.lt hl (.inr ⟨id,o,hi,e⟩)
   omega
 ·refine { k with own:=fun b g f=>?_ };rcases f with f|f
  ·rcases List.mem_append.1 f with f|f
   ·exact .inl f
   ·simp at f; omega
  ·exact .inr f
def J.obj (j:J) (b:Nat):J:={ j with out:=fun x=>if x=j.next then b else j.out x,next:=j.next+1 }
theorem ai.cN (h:ai) (i:Nat) (o:Option Obj):h.set i o i=o:=by simp [ai.set]
theorem ai.ct (h:ai){i n:Nat}(o:Option Obj) (hn:n≠i):h.set i o n=h n:=by simp [ai.set,hn]
theorem ai.set_set (h:ai) (i:Nat) (o o':Option Obj):(h.set i o).set i o'=h.set i o':=by
 funext n; simp only [ai.set]; split<;>rfl
theorem ai.El (h:ai) (i:Nat) (o:Option Obj) (hi:h i=o):h.set i o=h:=by
 funext n; simp only [ai.set]; split
 ·rename_i e; rw [e,hi]
 ·rfl
theorem e9.nh {j:J}{w:World}{h:ai}(hr:e9 j w h){id:Nat}(hi:j.next<=id):h id=none:=by
 cases e:h id with
 | none=>rfl
 | some o=>have:=(hr.obj id o e).1; omega
theorem HL.obj {j:J}{w:World}{jl:List Nat}{ls:List (List D)}{h:ai}(hl:HL j w jl ls h) (go:Go.Obj) (o:Obj) (l:o.tokd=false)
  (u:gu (j.obj w.heap.size) (w.alloc go) j.next o) :
  HL (j.obj w.heap.size) (w.alloc go) jl ls (h.set j.next (some o)) /\
   bV j w (aV j h jl) (j.obj w.heap.size) (w.alloc go) (aV (j.obj w.heap.size) (h.set j.next (some o)) jl):=by
 have s:=hl.data (ax:=ax) go 0;rw [J.uI (hl.1.fresh _ (Nat.le_refl _))] at s;obtain⟨hk,t⟩:=s;have hle:Le j (w.alloc go) (j.obj w.heap.size) (w.alloc go) :=
  ⟨by simp [J.obj],fun id hi=>by simp only [J.obj]; rw [if_neg (by omega)],fun _=>Nat.le_refl _,fun _ _ _=>rfl,fun _ _=>.inl rfl⟩
 have f:=hk.keep hle (fun _ _=>⟨rfl,rfl⟩) (fun _ _ _=>rfl) hk.1.fresh;have hblk:bS (j.obj w.heap.size) j.next o=some w.heap.size:=by
  cases o with
  | tok k m E=>simp [Obj.tokd] at l
  | arr k rows=>simp [Obj.tokd] at l
  | cells xs=>simp [bS,J.obj]
  | wH T xs=>simp [bS,J.obj]
  | map es=>simp [Obj.tokd] at l
  | dD b o=>simp [Obj.tokd] at l
  | fix b o=>simp [Obj.tokd] at l
 have hold:∀id o',h id=some o'->id≠j.next:=fun id o' hi e=>by
  rw [e,hl.1.nh (Nat.le_refl _)] at hi; simp at hi
 have bw:∀id o' b,h id=some o'->bS (j.obj w.heap.size) id o'=some b->b<w.heap.size:=fun id o' b hi e =>
  aV.lt hl ((f.2 b).1 (.inr ⟨id,o',hi,e⟩))
 refine⟨⟨⟨fun id o' hi=>?_,fun jg o1 jh o2 b h1 g q r=>?_,hk.1.fresh⟩,⟨f.1.2.each,f.1.2.nodup,fun b p i=>?_⟩⟩, ?_⟩
 ·by_cases e:id=j.next
  ·subst e; rw [ai.cN] at hi; simp only [Option.some.injEq] at hi; subst hi;exact⟨by simp [J.obj],u⟩
  ·rw [ai.ct h _ e] at hi; exact f.1.1.obj id o' hi
 ·by_cases c1:jg=j.next<;>by_cases c2:jh=j.next
  ·omega
  ·subst c1; rw [ai.cN] at h1; simp only [Option.some.injEq] at h1; subst h1;rw [ai.ct h _ c2] at g;rw [hblk] at q; simp only [Option.some.injEq] at q;have:=bw jh o2 b g r; omega
  ·subst c2; rw [ai.cN] at g; simp only [Option.some.injEq] at g; subst g;rw [ai.ct h _ c1] at h1;rw [hblk] at r; simp only [Option.some.injEq] at r;have:=bw jg o1 b h1 q; omega
  ·rw [ai.ct h _ c1] at h1; rw [ai.ct h _ c2] at g;exact f.1.1.inj jg o1 jh o2 b h1 g q r
 ·rcases i with i|⟨id,o',hi,e⟩
  ·simp at i
  ·by_cases c:id=j.next
   ·subst c; rw [ai.cN] at hi; simp only [Option.some.injEq] at hi; subst hi;rw [hblk] at e; simp only [Option.some.injEq] at e;have:=aV.lt hl (.inl p); omega
   ·rw [ai.ct h _ c] at hi;exact f.1.2.apart b p (.inr ⟨id,o',hi,e⟩)
 ·refine { toLe:=t.toLe.trans hle,size:=by simp,frame:=fun b p hn=>t.frame b p hn,own:=fun b p i=>?_,os:=rfl,tape:=rfl,output:=fS.rfl };rcases i with i|⟨id,o',hi,e⟩
  ·exact .inl i
  ·by_cases c:id=j.next
   ·subst c; rw [ai.cN] at hi; simp only [Option.some.injEq] at hi; subst hi;rw [hblk] at e; simp only [Option.some.injEq] at e; omega
   ·rw [ai.ct h _ c] at hi;exact(f.2 b).1 (.inr ⟨id,o',hi,e⟩)
end Go.Ab
/-
 Stores: into a local,into an object; slices that grow.
-/
namespace Go.Ab
open Go Go.RowKit
variable {ax:bK}
structure fL [bK] (w w':World) (b:Nat) (o:Go.Obj):Prop where
 size:w'.heap.size=w.heap.size
 here:w'.heap[b]?=some o
 other:∀x,x≠b->w'.heap[x]?=w.heap[x]?
 os:w'.os=w.os
 tape:w'.tape=w.tape
 output:fS w w'
theorem uJ {w w':World}{b o:Nat}(h:w'.heap[b]?=w.heap[b]?):w'.cell? ⟨b,o,none⟩=w.cell? ⟨b,o,none⟩:=by simp [World.cell?,h]
theorem fL.le {j:J}{w w':World}{b:Nat}{o:Go.Obj}(hu:fL w w' b o) (f:j.F b=0):Le j w j w' :=
 ⟨Nat.le_refl _,fun _ _=>rfl,fun _=>Nat.le_refl _,fun x i hi=>uJ (hu.other x fun e=>by rw [e,f] at hi; omega),fun _ _=>.inl rfl⟩
theorem Lj {α β:Type}{R S:α->β->Prop}{l:List α}{m:List β}(hl:aY R l m) (o:m.Nodup){i:Nat}{y:β}(j:m[i]?=some y) (x:α) (hx:S x y)
  (h:∀a b,b∈m->b≠y->R a b->S a b):aY S (l.set i x) m:=by
 refine aY.jN (by simp [hl.length]) fun n a b f g=>?_;by_cases e:i=n
 ·subst e;rw [j] at g; simp only [Option.some.injEq] at g; subst g;rw [List.getElem?_set] at f;simp only [if_true] at f
  split at f
  ·simp only [Option.some.injEq] at f; subst f; exact hx
  ·simp at f
 ·rw [List.getElem?_set,if_neg e] at f;obtain⟨b',k,hr⟩:=hl.get f;rw [g] at k; simp only [Option.some.injEq] at k; subst k;refine h _ _ (List.mem_of_getElem? g) (fun p=>?_) hr;subst p;exact e ((List.getElem?_inj (List.getElem?_eq_some_iff.1 j).1 o).1 (j.trans g.symm))
theorem HL.Ll {j:J}{w w':World}{jl:List Nat}{ls:List (List D)}{h:ai}(hl:HL j w jl ls h){i b:Nat}(g:jl[i]?=some b) (k:j.F b=0)
  {cs:List Value}{e:TypeId}(hu:fL w w' b (.cells cs.toArray e (0,0))){xs:List D}(hx:aY (aI j w) xs cs) :
  HL j w' jl (ls.set i xs) h/\bV j w (aV j h jl) j w' (aV j h jl):=by
 have hle:=hu.le (j:=j) k;have l:b∈jl:=List.mem_of_getElem? g;have m:∀x,aV j h [] x->x≠b:=fun x f e=>hl.2.apart b l (e▸f);have hr:e9 j w' h/\∀x,aV j h [] x↔aV j h [] x:=by
  have h0:HL j w [] [] h:=⟨hl.1,⟨.nil,by simp,by simp⟩⟩;have:=h0.keep hle (fun x f=>⟨hu.other x (m x f),rfl⟩) (fun _ _ _=>rfl) (fun x hx=>hl.1.fresh x (by rw [hu.size] at hx; exact hx));exact⟨this.1.1,fun _=>Iff.rfl⟩
 refine⟨⟨hr.1,⟨Lj hl.2.each hl.2.nodup g xs ⟨cs,e,hu.here,hx.imp fun _ _ h=>h.mono hle,k⟩ fun a y _ o h=>h.keep hle ⟨hu.other y o,rfl⟩,hl.2.nodup,hl.2.apart⟩⟩,
  { toLe:=hle,size:=by rw [hu.size]; exact Nat.le_refl _,frame:=fun x _ hn=>⟨hu.other x fun e=>hn (e▸.inl l),rfl⟩,own:=fun _ _ h=>h,os:=hu.os,tape:=hu.tape,output:=hu.output }⟩
theorem HL.setObj {j:J}{w w':World}{jl:List Nat}{ls:List (List D)}{h:ai}(hl:HL j w jl ls h){id:Nat}{o o':Obj}{go:Go.Obj}{B:Nat}(hi:h id=some o)
  (b:bS j id o=some B) (g:bS j id o'=some B) (r:j.F B=0)
  (hu:fL w w' B go) (i:gu j w' id o') :
  HL j w' jl ls (h.set id (some o'))/\bV j w (aV j h jl) j w' (aV j (h.set id (some o')) jl):=by
 have hle:=hu.le (j:=j) r;have k:∀jl x,aV j (h.set id (some o')) jl x↔aV j h jl x:=by
  intro jl x;constructor
  ·rintro (hm|⟨n,q,hn,e⟩)
   ·exact .inl hm
   ·by_cases c:n=id
    ·subst c; rw [ai.cN] at hn; simp only [Option.some.injEq] at hn; subst hn;rw [g] at e; exact .inr ⟨_,o,hi,by rw [b]; exact e⟩
    ·rw [ai.ct h _ c] at hn; exact .inr ⟨n,q,hn,e⟩
  ·rintro (hm|⟨n,q,hn,e⟩)
   ·exact .inl hm
   ·by_cases c:n=id
    ·subst c; rw [hi] at hn; simp only [Option.some.injEq] at hn; subst hn;rw [b] at e; exact .inr ⟨_,o',ai.cN _ _ _,by rw [g]; exact e⟩
    ·exact .inr ⟨n,q,by rw [ai.ct h _ c]; exact hn,e⟩
 have s:∀n q x,h n=some q->n≠id->bS j n q=some x->x≠B:=fun n q x hn t e c =>
  t (hl.1.inj n q id o x hn hi e (c▸b))
 have u:∀x,x∈jl->x≠B:=fun x hx c=>hl.2.apart x hx (.inr ⟨id,o,hi,c▸b⟩);refine⟨⟨⟨fun n q hn=>?_,fun l v m y x h1 z C E=>?_,fun x hx=>hl.1.fresh x (by rw [hu.size] at hx; exact hx)⟩,
  ⟨oP hl.2.each fun xs x hx h=>h.keep hle ⟨hu.other x (u x hx),rfl⟩,hl.2.nodup,fun x hx i=>hl.2.apart x hx ((k [] x).1 i)⟩⟩, ?_⟩
 ·by_cases c:n=id
  ·subst c; rw [ai.cN] at hn; simp only [Option.some.injEq] at hn; subst hn;exact⟨(hl.1.obj _ o hi).1,i⟩
  ·rw [ai.ct h _ c] at hn;have:=hl.1.obj n q hn;exact⟨this.1,(this.2.keep hle this.1 (fun x e=>⟨hu.other x (s n q x hn c e),rfl⟩) (fun _=>rfl)).1⟩
 ·have f:∀n q,(h.set id (some o')) n=some q->∃p,h n=some p/\∀x,bS j n q=some x->bS j n p=some x:=by
   intro n q hn;by_cases c:n=id
   ·subst c; rw [ai.cN] at hn; simp only [Option.some.injEq] at hn; subst hn;exact⟨o,hi,fun x e=>by rw [g] at e; rw [b]; exact e⟩
   ·rw [ai.ct h _ c] at hn; exact⟨q,hn,fun _ e=>e⟩
  obtain⟨G,g1,f1⟩:=f l v h1;obtain⟨H,g2,f2⟩:=f m y z;exact hl.1.inj l G m H x g1 g2 (f1 x C) (f2 x E)
 ·exact { toLe:=hle,size:=(by rw [hu.size]; exact Nat.le_refl _),frame:=(fun x _ hn=>⟨hu.other x (fun c=>hn (.inr ⟨id,o,hi,c▸b⟩)),rfl⟩),own:=(fun x _ h=>(k jl x).1 h),os:=hu.os,tape:=hu.tape,output:=hu.output }
theorem HL.forget {j:J}{w:World}{jl:List Nat}{ls:List (List D)}{h h':ai}(hl:HL j w jl ls h) (b:∀id o,h' id=some o->h id=some o) :
  HL j w jl ls h'/\bV j w (aV j h jl) j w (aV j h' jl):=by
 have f:∀jl x,aV j h' jl x->aV j h jl x:=by
  rintro jl x (hm|⟨n,q,hn,e⟩)
  ·exact .inl hm
  ·exact .inr ⟨n,q,b n q hn,e⟩
 exact⟨⟨⟨fun id o hi=>hl.1.obj id o (b id o hi),fun g i k l x h1 m p r=>hl.1.inj g i k l x (b _ _ h1) (b _ _ m) p r,hl.1.fresh⟩,
  ⟨hl.2.each,hl.2.nodup,fun x hx s=>hl.2.apart x hx (f [] x s)⟩⟩,(bV.refl j w _).drop (f jl)⟩
theorem HL.trim {j:J}{w:World}{jl:List Nat}{ls:List (List D)}{h:ai}(hl:HL j w jl ls h) (n:Nat) :
  HL j w (jl.take n) (ls.take n) h/\bV j w (aV j h jl) j w (aV j h (jl.take n)) :=
 ⟨⟨hl.1,⟨hl.2.each.take n,hl.2.nodup.sublist (List.take_sublist n jl),fun b f=>hl.2.apart b (List.mem_of_mem_take f)⟩⟩,
  (bV.refl j w _).drop fun _ g=>g.elim (fun x=>.inl (List.mem_of_mem_take x)) .inr⟩
def J.fG (j:J):J:={ j with tok:=fun x=>if x=j.next then some ⟨none,0⟩ else j.tok x,next:=j.next+1 }
theorem HL.fG {j:J}{w:World}{jl:List Nat}{ls:List (List D)}{h:ai}(hl:HL j w jl ls h) (k:Nat) (E:Option TypeId:=none) :
  HL j.fG w jl ls (h.set j.next (some (.tok k 0 E)))/\bV j w (aV j h jl) j.fG w (aV j.fG (h.set j.next (some (.tok k 0 E))) jl):=by
 have hle:Le j w j.fG w:=⟨by simp [J.fG],fun _ _=>rfl,fun _=>Nat.le_refl _,fun _ _ _=>rfl,fun t ht=>.inl (by simp only [J.fG]; rw [if_neg (by omega)])⟩;have hk:=hl.keep hle (fun _ _=>⟨rfl,rfl⟩) (fun id hid _=>by simp only [J.fG]; rw [if_neg (by omega)]) hl.1.fresh;have g:∀b,bS j.fG j.next (.tok k 0 E)≠some b:=by intro b; simp [bS,J.fG]
 have l:∀jl x,aV j.fG (h.set j.next (some (.tok k 0 E))) jl x->aV j.fG h jl x:=by
  rintro jl x (hm|⟨n,q,hn,e⟩)
  ·exact .inl hm
  ·by_cases c:n=j.next
   ·subst c; rw [ai.cN] at hn; simp only [Option.some.injEq] at hn; subst hn;exact absurd e (g x)
   ·rw [ai.ct h _ c] at hn; exact .inr ⟨n,q,hn,e⟩
 refine⟨⟨⟨fun id o hi=>?_,fun m u p v x h1 f r s=>?_,hl.1.fresh⟩,⟨hk.1.2.each,hk.1.2.nodup,fun x hx i=>hk.1.2.apart x hx (l [] x i)⟩⟩,
  { (bV.refl j w (aV j h jl)) with toLe:=hle,frame:=fun _ _ _=>⟨rfl,rfl⟩,own:=fun b _ i=>(hk.2 b).1 (l jl b i) }⟩
 ·by_cases c:id=j.next
  ·subst c; rw [ai.cN] at hi; simp only [Option.some.injEq] at hi; subst hi;exact⟨by simp [J.fG],none,by simp [J.fG],(by intro _ _ h; cases h),fun _ _=>rfl⟩
  ·rw [ai.ct h _ c] at hi; exact hk.1.1.obj id o hi
 ·by_cases c1:m=j.next
  ·subst c1; rw [ai.cN] at h1; simp only [Option.some.injEq] at h1; subst h1;exact absurd r (g x)
  ·by_cases c2:p=j.next
   ·subst c2; rw [ai.cN] at f; simp only [Option.some.injEq] at f; subst f;exact absurd s (g x)
   ·rw [ai.ct h _ c1] at h1; rw [ai.ct h _ c2] at f;exact hk.1.1.inj m u p v x h1 f r s
def J.dw (j:J) (t:Nat) (k:Tk) (b n:Nat):J:={ j with tok:=fun x=>if x=t then some k else j.tok x,F:=fun x=>if x=b then n else j.F x }
def J.gv (j:J) (m:Nat):J:={ j with tok:=fun x=>if x=j.next then some ⟨none,m⟩ else j.tok x,next:=j.next+1 }
theorem HL.gv {j:J}{w:World}{jl:List Nat}{ls:List (List D)}{h:ai}(hl:HL j w jl ls h) (k m:Nat) :
  HL (j.gv m) w jl ls (h.set j.next (some (.tok k m)))/\bV j w (aV j h jl) (j.gv m) w (aV (j.gv m) (h.set j.next (some (.tok k m))) jl):=by
 have hle:Le j w (j.gv m) w:=⟨by simp [J.gv],fun _ _=>rfl,fun _=>Nat.le_refl _,fun _ _ _=>rfl,fun t ht=>.inl (by simp only [J.gv]; rw [if_neg (by omega)])⟩;have hk:=hl.keep hle (fun _ _=>⟨rfl,rfl⟩) (fun id hid _=>by simp only [J.gv]; rw [if_neg (by omega)]) hl.1.fresh;have g:∀b,bS (j.gv m) j.next (.tok k m)≠some b:=by intro b; simp [bS,J.gv]
 have l:∀jl x,aV (j.gv m) (h.set j.next (some (.tok k m))) jl x->aV (j.gv m) h jl x:=by
  rintro jl x (hm|⟨n,q,hn,e⟩)
  ·exact .inl hm
  ·by_cases c:n=j.next
   ·subst c; rw [ai.cN] at hn; simp only [Option.some.injEq] at hn; subst hn;exact absurd e (g x)
   ·rw [ai.ct h _ c] at hn; exact .inr ⟨n,q,hn,e⟩
 refine⟨⟨⟨fun id o hi=>?_,fun p v r y x h1 f s u=>?_,hl.1.fresh⟩,⟨hk.1.2.each,hk.1.2.nodup,fun x hx i=>hk.1.2.apart x hx (l [] x i)⟩⟩,
  { (bV.refl j w (aV j h jl)) with toLe:=hle,frame:=fun _ _ _=>⟨rfl,rfl⟩,own:=fun b _ i=>(hk.2 b).1 (l jl b i) }⟩
 ·by_cases c:id=j.next
  ·subst c; rw [ai.cN] at hi; simp only [Option.some.injEq] at hi; subst hi;exact⟨by simp [J.gv],none,by simp [J.gv],(by intro _ _ h; cases h),fun h=>by cases h⟩
  ·rw [ai.ct h _ c] at hi; exact hk.1.1.obj id o hi
 ·by_cases c1:p=j.next
  ·subst c1; rw [ai.cN] at h1; simp only [Option.some.injEq] at h1; subst h1;exact absurd s (g x)
  ·by_cases c2:r=j.next
   ·subst c2; rw [ai.cN] at f; simp only [Option.some.injEq] at f; subst f;exact absurd u (g x)
   ·rw [ai.ct h _ c1] at h1; rw [ai.ct h _ c2] at f;exact hk.1.1.inj p v r y x h1 f s u
theorem HL.grow {j:J}{w w':World}{jl:List Nat}{ls:List (List D)}{h:ai}(hl:HL j w jl ls h){t k m m':Nat}{E:Option TypeId}(ht:h t=some (.tok k m E)) (hm:m<m')
  {b cap:Nat}{cs:Array Value}{e:TypeId}(K:w'.heap[b]?=some (.cells cs e (0,0))) (O:cs.size=cap*k) (P:m'<=cap)
  (y:∀x,x≠b->x<w.heap.size->w'.heap[x]?=w.heap[x]?) (Q:w.heap.size<=w'.heap.size) (ad:w'.heap.size<=max w.heap.size (b+1))
  (l:w.heap.size<=b\/(bS j t (.tok k m E)=some b/\∀o,o<j.F b->w'.cell? ⟨b,o,none⟩=w.cell? ⟨b,o,none⟩))
  (R:w'.os=w.os) (S:w'.tape=w.tape) (U:fS w w') (W:∀T,E=some T->e=T:=by intro T h; cases h) :
  HL (j.dw t ⟨some (b,cap),m'⟩ b (m'*k)) w' jl ls (h.set t (some (.tok k m' E))) /\
   bV j w (aV j h jl) (j.dw t ⟨some (b,cap),m'⟩ b (m'*k)) w' (aV (j.dw t ⟨some (b,cap),m'⟩ b (m'*k)) (h.set t (some (.tok k m' E))) jl):=by
 obtain⟨X,eD,L,hblk,_⟩:=hl.1.obj t _ ht;have Y:j.F b<=m'*k:=by
  rcases l with hc|⟨hc,_⟩
  ·rw [hl.1.fresh b hc]; exact Nat.zero_le _
  ·simp only [bS,L,Option.bind_some] at hc;cases eD with
   | none=>simp at hc
   | some Z =>
    obtain⟨b',aa⟩:=Z;simp only [Option.map_some,Option.some.injEq] at hc;subst hc;obtain⟨_,_,_,_,ab,_⟩:=hblk _ _ rfl;rw [ab]; exact Nat.mul_le_mul_right _ (Nat.le_of_lt hm)
 have hle:Le j w (j.dw t ⟨some (b,cap),m'⟩ b (m'*k)) w':=by
  refine⟨Nat.le_refl _,fun _ _=>rfl,fun x=>?_,fun x o i=>?_,fun x hx=>?_⟩
  ·simp only [J.dw]; split
   ·rename_i c; rw [c]; exact Y
   ·exact Nat.le_refl _
  ·by_cases c:x=b
   ·subst c;rcases l with hc|⟨_,hc⟩
    ·rw [hl.1.fresh x hc] at i; omega
    ·exact hc o i
   ·refine uJ (y x c ?_);rcases Nat.lt_or_ge x w.heap.size with h1|h1
    ·exact h1
    ·rw [hl.1.fresh x h1] at i; omega
  ·by_cases c:x=t
   ·subst c; exact .inr ⟨_,⟨some (b,cap),m'⟩,L,by simp [J.dw],hm⟩
   ·exact .inl (by simp [J.dw,c])
 -- the others' blocks are not b
 have z:∀n q x,h n=some q->n≠t->bS j n q=some x->x≠b:=fun n q x hn g hx c=>by
  subst c;rcases l with hc|⟨hc,_⟩
  ·have:=aV.lt hl (.inr ⟨n,q,hn,hx⟩); omega
  ·exact g (hl.1.inj n q t _ x hn ht hx hc)
 have H:∀x,x∈jl->x≠b:=fun x hx c=>by
  subst c;rcases l with hc|⟨hc,_⟩
  ·have:=aV.lt hl (.inl hx); omega
  ·exact hl.2.apart x hx (.inr ⟨t,_,ht,hc⟩)
 have B:∀x,x≠b->(j.dw t ⟨some (b,cap),m'⟩ b (m'*k)).F x=j.F x:=fun x hx=>by simp [J.dw,hx]
 have p:∀n q,h n=some q->n≠t->gu (j.dw t ⟨some (b,cap),m'⟩ b (m'*k)) w' n q/\bS (j.dw t ⟨some (b,cap),m'⟩ b (m'*k)) n q=bS j n q:=fun n q hn g =>
  (hl.1.obj n q hn).2.keep hle (hl.1.obj n q hn).1 (fun x hx=>⟨y x (z n q x hn g hx) (aV.lt hl (.inr ⟨n,q,hn,hx⟩)),B x (z n q x hn g hx)⟩)
   (fun _=>by simp [J.dw,g])
 have I:bS (j.dw t ⟨some (b,cap),m'⟩ b (m'*k)) t (.tok k m' E)=some b:=by simp [bS,J.dw]
 have M:∀jl x,aV (j.dw t ⟨some (b,cap),m'⟩ b (m'*k)) (h.set t (some (.tok k m' E))) jl x->x=b\/aV j h jl x:=by
  rintro jl x (hx|⟨n,q,hn,hx⟩)
  ·exact .inr (.inl hx)
  ·by_cases c:n=t
   ·subst c; rw [ai.cN] at hn; simp only [Option.some.injEq] at hn; subst hn;rw [I] at hx; simp only [Option.some.injEq] at hx; exact .inl hx.symm
   ·rw [ai.ct h _ c] at hn;exact .inr (.inr ⟨n,q,hn,(p n q hn c).2▸hx⟩)
 refine⟨⟨⟨fun n q hn=>?_,fun r C s G x h1 f u v=>?_,fun x hx=>?_⟩,
  ⟨oP hl.2.each fun xs x hx h=>h.keep hle ⟨y x (H x hx) (aV.lt hl (.inl hx)),B x (H x hx)⟩,hl.2.nodup,fun x hx i=>?_⟩⟩, ?_⟩
 ·by_cases c:n=t
  ·subst c; rw [ai.cN] at hn; simp only [Option.some.injEq] at hn; subst hn;refine⟨X,some (b,cap),by simp [J.dw],fun b' aa N=>?_,fun _ h=>by cases h⟩;simp only [Option.some.injEq,Prod.mk.injEq] at N;obtain⟨rfl,rfl⟩:=N;exact⟨cs,e,K,O,by simp [J.dw],P,W⟩
  ·rw [ai.ct h _ c] at hn;exact⟨(hl.1.obj n q hn).1,(p n q hn c).1⟩
 ·by_cases c1:r=t<;>by_cases c2:s=t
  ·omega
  ·subst c1; rw [ai.cN] at h1; simp only [Option.some.injEq] at h1; subst h1;rw [ai.ct h _ c2] at f;rw [I] at u; simp only [Option.some.injEq] at u;exact absurd u.symm (z s G x f c2 ((p s G f c2).2▸v))
  ·subst c2; rw [ai.cN] at f; simp only [Option.some.injEq] at f; subst f;rw [ai.ct h _ c1] at h1;rw [I] at v; simp only [Option.some.injEq] at v;exact absurd v.symm (z r C x h1 c1 ((p r C h1 c1).2▸u))
  ·rw [ai.ct h _ c1] at h1; rw [ai.ct h _ c2] at f;exact hl.1.inj r C s G x h1 f ((p r C h1 c1).2▸u) ((p s G f c2).2▸v)
 ·have ae:=ji K;rw [B x (by omega)];exact hl.1.fresh x (by omega)
 ·rcases M [] x i with c|c
  ·exact H x hx c
  ·exact hl.2.apart x hx c
 ·refine { toLe:=hle,size:=Q,frame:=fun x hx hn=>?_,own:=fun x hx i=>?_,os:=R,tape:=S,output:=U }
  ·have g:x≠b:=fun c=>by
    subst c;rcases l with hc|⟨hc,_⟩
    ·omega
    ·exact hn (.inr ⟨t,_,ht,hc⟩)
   exact⟨y x g hx,B x g⟩
  ·rcases M jl x i with c|c
   ·subst c;rcases l with hc|⟨hc,_⟩
    ·omega
    ·exact .inr ⟨t,_,ht,hc⟩
   ·exact c
theorem HL.Lm {j:J}{w:World}{jl:List Nat}{ls:List (List D)}{h:ai}(hl:HL j w jl ls h){t k:Nat}(ht:h t=some (.tok k 0)) :
  HL (j.dw t ⟨some (w.heap.size,0),1⟩ w.heap.size 0) (w.alloc (.map #[] 0)) jl ls (h.set t (some (.map []))) /\
   bV j w (aV j h jl) (j.dw t ⟨some (w.heap.size,0),1⟩ w.heap.size 0) (w.alloc (.map #[] 0)) (aV (j.dw t ⟨some (w.heap.size,0),1⟩ w.heap.size 0) (h.set t (some (.map []))) jl) /\
   bz (j.dw t ⟨some (w.heap.size,0),1⟩ w.heap.size 0) (w.alloc (.map #[] 0)) jl (.a (.d (.map t))) (.map (some w.heap.size)):=by
 obtain⟨G,eD,M,hblk,_⟩:=hl.1.obj t _ ht;have H:j.F w.heap.size=0:=hl.1.fresh _ (Nat.le_refl _);have r:∀x,x<w.heap.size->(w.alloc (.map #[] 0)).heap[x]?=w.heap[x]?:=fun x hx=>uH hx;generalize i:j.dw t ⟨some (w.heap.size,0),1⟩ w.heap.size 0=j';have f:∀x,j'.F x=j.F x:=fun x=>by
  subst i; simp only [J.dw]; split
  ·rename_i c; rw [c,H]
  ·rfl
 have B:j'.next=j.next:=by subst i; rfl
 have s:j'.tok t=some ⟨some (w.heap.size,0),1⟩:=by subst i; simp [J.dw]
 have I:∀x,x≠t->j'.tok x=j.tok x:=fun x hx=>by subst i; simp [J.dw,hx]
 have hle:Le j w j' (w.alloc (.map #[] 0)):=by
  refine⟨by rw [B]; exact Nat.le_refl _,fun _ _=>by subst i; rfl,fun x=>by rw [f]; exact Nat.le_refl _,fun x o l=>?_,fun x hx=>?_⟩
  ·refine uJ (r x ?_);rcases Nat.lt_or_ge x w.heap.size with h1|h1
   ·exact h1
   ·rw [hl.1.fresh x h1] at l; omega
  ·by_cases c:x=t
   ·subst c; exact .inr ⟨_,_,M,s,Nat.zero_lt_one⟩
   ·exact .inl (I x c)
 have C:∀n q x,h n=some q->bS j n q=some x->x<w.heap.size:=fun n q x hn hx=>aV.lt hl (.inr ⟨n,q,hn,hx⟩);have K:∀x,x∈jl->x<w.heap.size:=fun x hx=>aV.lt hl (.inl hx);have g:∀n q,h n=some q->n≠t->gu j' (w.alloc (.map #[] 0)) n q/\bS j' n q=bS j n q:=fun n q hn N =>
  (hl.1.obj n q hn).2.keep hle (hl.1.obj n q hn).1 (fun x hx=>⟨r x (C n q x hn hx),f x⟩) (fun _=>I n N)
 have E:bS j' t (.map [])=some w.heap.size:=by simp [bS,s]
 have L:∀jl x,aV j' (h.set t (some (.map []))) jl x->x=w.heap.size\/aV j h jl x:=by
  rintro jl x (hx|⟨n,q,hn,hx⟩)
  ·exact .inr (.inl hx)
  ·by_cases c:n=t
   ·subst c; rw [ai.cN] at hn; simp only [Option.some.injEq] at hn; subst hn;rw [E] at hx; simp only [Option.some.injEq] at hx; exact .inl hx.symm
   ·rw [ai.ct h _ c] at hn;exact .inr (.inr ⟨n,q,hn,(g n q hn c).2▸hx⟩)
 refine⟨⟨⟨fun n q hn=>?_,fun m u p v x h1 b y z=>?_,fun x hx=>?_⟩,
  ⟨oP hl.2.each fun xs x hx h=>h.keep hle ⟨r x (K x hx),f x⟩,hl.2.nodup,fun x hx l=>?_⟩⟩, ?_, ?_⟩
 ·rw [B];by_cases c:n=t
  ·subst c; rw [ai.cN] at hn; simp only [Option.some.injEq] at hn; subst hn;exact⟨G,w.heap.size,0,[],0,s,heap_alloc_new w _,.nil,by rw [f]; exact H,List.nodup_nil,(fun _ h=>by cases h),List.nodup_nil⟩
  ·rw [ai.ct h _ c] at hn;exact⟨(hl.1.obj n q hn).1,(g n q hn c).1⟩
 ·by_cases c1:m=t<;>by_cases c2:p=t
  ·omega
  ·subst c1; rw [ai.cN] at h1; simp only [Option.some.injEq] at h1; subst h1;rw [ai.ct h _ c2] at b;rw [E] at y; simp only [Option.some.injEq] at y;have:=C p v x b ((g p v b c2).2▸z); omega
  ·subst c2; rw [ai.cN] at b; simp only [Option.some.injEq] at b; subst b;rw [ai.ct h _ c1] at h1;rw [E] at z; simp only [Option.some.injEq] at z;have:=C m u x h1 ((g m u h1 c1).2▸y); omega
  ·rw [ai.ct h _ c1] at h1; rw [ai.ct h _ c2] at b;exact hl.1.inj m u p v x h1 b ((g m u h1 c1).2▸y) ((g p v b c2).2▸z)
 ·rw [f];simp only [World.size_alloc] at hx;exact hl.1.fresh x (by omega)
 ·rcases L [] x l with c|c
  ·have:=K x hx; omega
  ·exact hl.2.apart x hx c
 ·refine { toLe:=hle,size:=(by simp),frame:=fun x hx hn=>⟨r x hx,f x⟩,own:=fun x hx l=>?_,os:=rfl,tape:=rfl,output:=fS.rfl };rcases L jl x l with c|c
  ·omega
  ·exact c
 ·show aI j' (w.alloc (.map #[] 0)) (.map t) (.map (some w.heap.size));refine .map t w.heap.size (by rw [B]; exact G) fun tk hk=>?_;rw [s] at hk;obtain rfl:=Option.some.inj hk;exact⟨Nat.le_refl _,fun _=>⟨0,rfl⟩⟩
end Go.Ab
/-
 The abstract state of a running function,one operation,a region in the order of its text.
-/
namespace Go.Ab
open Go Go.RowKit
variable {ax:bK}
class eN where
 ds:List Deferred
instance (priority:=low) eN.nothing:eN:=⟨[]⟩
variable {fM:eN}
abbrev Ts:=List (Nat×V)
def get:Ts->Nat->V
 | [],_=>.any
 | (k,v)::r,n=>bif Nat.beq k n then v else get r n
theorem ga (k:Nat) (v:V) (r:Ts):get ((k,v)::r) k=v:=by simp [get]
theorem g_ {k n:Nat}(v:V) (r:Ts) (h:k≠n):get ((k,v)::r) n=get r n:=by
 have:Nat.beq k n=false:=Bool.eq_false_iff.2 fun e=>h (Nat.eq_of_beq_eq_true e);simp [get,this]
structure St where
 n:Nat
 ts:Ts
 ls:List (List D)
 h:ai
def su:Value->Option D
 | .bool b=>some (.bool b)
 | .int k n=>some (.int k n)
 | .string s=>bif Nat.ble s.data.toList.length eW then some (.str s.data.toList) else none
 | .slice none 0 0=>some (.slice 0 none true [])
 | .pointer none=>some .eV
 | .map none=>some .qw
 | .nilFunc=>some .nilFunc
 | .nilIface=>some .nilIface
 | _=>none
def Em (v:Value):V :=
 match su v with
 | some x=>.a (.d x)
 | none=>.any
def ev (ts:Ts):Operand->V
 | .tmp t=>get ts t
 | .const v=>Em v
 | .global _=>.any
 | .func f=>.a (.d (.func f []))
theorem zo (j:J) (w:World) (v:Value) (x:D) (h:su v=some x):aI j w x v:=by
 unfold su at h
 split at h<;>simp at h
 ·subst h; exact .bool _
 ·subst h; exact .int _ _
 ·rename_i s
  cases c:Nat.ble s.size eW with
  | false=>rw [c] at h; simp at h
  | true =>
   rw [c] at h; simp at h;subst h;have:=aI.str (j:=j) (w:=w) s.data.toList (by simpa using Nat.le_of_ble_eq_true c)
   simpa using this
 ·subst h; exact .f_ _ _ (by simp)
 ·subst h; exact .eV
 ·subst h; exact .qw
 ·subst h; exact .nilFunc
 ·subst h; exact .nilIface
theorem oQ {j:J}{w:World}{jl:List Nat}{ts:Ts}{a:Act}(h:∀k,bz j w jl (get ts k) (a.tmps.getD k undef)) (x:Operand):bz j w jl (ev ts x) (a.eval x):=by
 cases x with
 | tmp t=>exact h t
 | const v =>
  simp only [ev,Em,Act.eval]
  split
  ·rename_i x hx; exact zo j w v x hx
  ·trivial
 | global g=>trivial
 | func f=>exact aI.func f [] [] rfl (by simp)
structure fN [eN] (j:J) (w:World) (jl:List Nat) (σ:St) (a:Act):Prop where
 defers:a.defers=eN.ds
 size:a.tmps.size=σ.n
 tmps:∀k,bz j w jl (get σ.ts k) (a.tmps.getD k undef)
 hl:HL j w jl σ.ls σ.h
structure Fx where
 rl:Bool:=false
 wl:Bool:=false
 rh:Bool:=false
 wh:Bool:=false
 nu:Bool:=false
def c_ [bK] (P:Program) (o:Oper) (ts:Ts) (ls:List (List D)) (h:ai) (R:V->List (List D)->ai->Prop):Prop :=
 ∀(j:J) (w:World) (jl:List Nat) (a:Act),HL j w jl ls h->(∀x,x∈o.op.operands->bz j w jl (ev ts x) (a.eval x)) ->
  ∀(K:Act->World->Prop) (Q:Exit->Act->World->Prop),
   (∀v aM h' cv j' w' b,R v aM h'->bz j' w' b v cv->HL j' w' b aM h'->Ext jl b->bV j w (aV j h jl) j' w' (aV j' h' b)->K (a.put o.dst cv) w')->o.wp P a w K Q
def ar [bK] (P:Program) (o:Oper) (ts:Ts) (ls:List (List D)) (h:ai) (fx:Fx) (v:V) (aM:List (List D)) (h':ai):Prop :=
 ∀L H,((fx.rl||fx.wl)=true->L=ls)->((fx.rh||fx.wh)=true->H=h) ->
  c_ P o ts L H fun u l k=>u=v/\l=(bif fx.wl then aM else L)/\k=(bif fx.wh then h' else H)
theorem ar.step {P:Program}{o:Oper}{ts:Ts}{ls aM:List (List D)}{h h':ai}{fx:Fx}{v:V}(hc:ar P o ts ls h fx v aM h') :
  c_ P o ts ls h fun u l k=>u=v/\l=(bif fx.wl then aM else ls)/\k=(bif fx.wh then h' else h) :=
 hc ls h (fun _=>rfl) (fun _=>rfl)
theorem c_.mono {P:Program}{o:Oper}{ts:Ts}{ls:List (List D)}{h:ai}{R b:V->List (List D)->ai->Prop}(f:c_ P o ts ls h R) (hr:∀v l k,R v l k->b v l k):c_ P o ts ls h b :=
 fun j w jl a hl g K Q hk=>f j w jl a hl g K Q fun v aM h' cv j' w' i r=>hk v aM h' cv j' w' i (hr _ _ _ r)
def jQ (dst:Option Tmp) (v:V) (ts:Ts):Ts :=
 match dst with
 | some d=>(d,v)::ts
 | none=>ts
def kT (dst:Option Tmp) (n:Nat):Bool :=
 match dst with
 | some d=>Nat.blt d n
 | none=>true
theorem Ln {j:J}{w:World}{jl:List Nat}{ts:Ts}{a:Act}{n:Nat}(b:a.tmps.size=n) (h:∀k,bz j w jl (get ts k) (a.tmps.getD k undef)){dst:Option Tmp}(f:kT dst n=true)
  {v:V}{cv:Value}(hv:bz j w jl v cv):∀k,bz j w jl (get (jQ dst v ts) k) ((a.put dst cv).tmps.getD k undef):=by
 intro k;cases dst with
 | none=>exact h k
 | some d =>
  simp only [jQ,Act.put];have bw:d<a.tmps.size:=by
   have:Nat.blt d n=true:=f;rw [b]; simpa [Nat.blt_eq] using this
  by_cases e:d=k
  ·subst e;rw [ga]
   simpa [Array.getD_eq_getD_getElem?,bw] using hv
  ·rw [g_ _ _ e];have:=h k
   simpa [Array.getD_eq_getD_getElem?,Array.getElem?_setIfInBounds,e] using this
theorem zp (a:Act) (dst:Option Tmp) (v:Value):(a.put dst v).tmps.size=a.tmps.size:=by cases dst<;>simp [Act.put]
theorem put_defers (a:Act) (dst:Option Tmp) (v:Value):(a.put dst v).defers=a.defers:=by cases dst<;>rfl
theorem fN.put {j j':J}{w w':World}{jl b:List Nat}{σ:St}{a:Act}(h:fN j w jl σ a) (hle:Le j w j' w') (hx:Ext jl b){dst:Option Tmp}(f:kT dst σ.n=true)
  {v:V}{cv:Value}(hv:bz j' w' b v cv){aM:List (List D)}{h':ai}(hl:HL j' w' b aM h'):fN j' w' b ⟨σ.n,jQ dst v σ.ts,aM,h'⟩ (a.put dst cv) :=
 ⟨by rw [put_defers]; exact h.defers,by rw [zp]; exact h.size,Ln h.size (fun k=>(h.tmps k).mono hle hx) f hv,hl⟩
def guardOf (ops:Array Oper) (o:Oper):Option (Nat×Bool) :=
 match o.guard with
 | none=>none
 | some (g,want)=>match (ops[g]?).bind (·.dst) with
  | some d=>some (d,want)
  | none=>none
theorem sv {ops:Array Oper}{o:Oper}{tmps:Array Value}(h:o.guard=none):Region.wanted o (yielded ops tmps)=true:=by simp [Region.wanted,h]
theorem En {j:J}{w:World}{jl:List Nat}{ts:Ts}{a:Act}{ops:Array Oper}{o:Oper}{d:Nat}{want b:Bool}(hg:guardOf ops o=some (d,want))
  (f:get ts d=.a (.d (.bool b))) (h:bz j w jl (get ts d) (a.tmps.getD d undef)):Region.wanted o (yielded ops a.tmps)=(b==want):=by
 unfold guardOf at hg;rw [f] at h;have hv:a.tmps.getD d undef=.bool b:=by
  have h':aI j w (.bool b) (a.tmps.getD d undef):=h;generalize a.tmps.getD d undef=x at h';cases h'; rfl
 have i:a.tmps[d]?=some (.bool b):=by
  rw [Array.getD_eq_getD_getElem?] at hv;cases e:a.tmps[d]? with
  | none=>rw [e] at hv; simp [undef] at hv
  | some x=>rw [e] at hv; simp at hv; rw [hv]
 split at hg
 ·simp at hg
 ·rename_i g k l
  split at hg
  ·rename_i p m
   simp only [Option.some.injEq,Prod.mk.injEq] at hg;obtain⟨rfl,rfl⟩:=hg;simp only [Region.wanted,l,yielded,m,Option.bind_some,i];cases b<;>cases k<;>rfl
  ·simp at hg
def aP [bK] [eN] (P:Program) (ops:Array Oper) (l:List Oper) (Q:St->Prop) (σ:St):Prop :=
 ∀(j:J) (w:World) (jl:List Nat) (a:Act),fN j w jl σ a->∀(f:Exit->Act->World->Prop),
  (∀b j' w' g i,Q b->fN j' w' g b i->bV j w (aV j σ.h jl) j' w' (aV j' b.h g)->f .normal i w')->wpList P ops f l a w
section
variable {P:Program}{ops:Array Oper}{rest:List Oper}{o:Oper}{Q:St->Prop}{n:Nat}{ts:Ts}{ls:List (List D)}{h:ai}
theorem aP.nil {σ:St}(hq:Q σ):aP P ops [] Q σ:=fun _ _ _ _ b _ hk=>hk _ _ _ _ _ hq b (bV.refl _ _ _)
theorem aP.run {R:V->List (List D)->ai->Prop}(m:c_ P o ts ls h R) (p:kT o.dst n=true)
  (hr:∀v aM h',R v aM h'->aP P ops rest Q ⟨n,jQ o.dst v ts,aM,h'⟩)
  {j:J}{w:World}{jl:List Nat}{a:Act}(i:fN j w jl ⟨n,ts,ls,h⟩ a) (q:Region.wanted o (yielded ops a.tmps)=true) (f:Exit->Act->World->Prop)
  (hk:∀b j' w' g k,Q b->fN j' w' g b k->bV j w (aV j h jl) j' w' (aV j' b.h g)->f .normal k w'):wpList P ops f (o::rest) a w:=by
 refine wpList_step fun K s=>?_;rw [if_pos q];refine m j w jl a i.hl (fun x _=>oQ i.tmps x) K f fun v aM h' cv j' w' g r hv hl hx l=>s _ _ ?_;exact hr v aM h' r j' w' g _ (i.put l.toLe hx p hv hl) f fun b t u y a2 hq z B=>hk b t u y a2 hq z (l.trans B)
theorem aP.Eo {R:V->List (List D)->ai->Prop}(b:c_ P o ts ls h R) (hg:o.guard=none) (f:kT o.dst n=true)
  (hr:∀v aM h',R v aM h'->aP P ops rest Q ⟨n,jQ o.dst v ts,aM,h'⟩):aP P ops (o::rest) Q ⟨n,ts,ls,h⟩ :=
 fun _ _ _ _ g i hk=>aP.run b f hr g (sv hg) i hk
theorem aP.step {fx:Fx}{v:V}{aM:List (List D)}{h':ai}(b:ar P o ts ls h fx v aM h') (hg:o.guard=none) (f:kT o.dst n=true)
  (hr:aP P ops rest Q ⟨n,jQ o.dst v ts,(bif fx.wl then aM else ls),(bif fx.wh then h' else h)⟩):aP P ops (o::rest) Q ⟨n,ts,ls,h⟩ :=
 aP.Eo b.step hg f fun _ _ _ ⟨g,i,j⟩=>by rw [g,i,j]; exact hr
end
end Go.Ab
/-
 A region that draws its order: one walk in the order of the text serves every order,where what is not ordered does not meet.
-/
namespace Go.Ab
open Go Go.RowKit
variable {ax:bK}
def ni [bK] (P:Program) (ops:Array Oper) (n:Nat) (o:Oper) (ts:Ts) (ls:List (List D)) (h:ai) (fx:Fx) (v:V) (aM:List (List D)) (h':ai):Prop :=
 kT o.dst n=true/\∀L H,((fx.rl||fx.wl)=true->L=ls)->((fx.rh||fx.wh)=true->H=h) ->
  ∀(j:J) (w:World) (jl:List Nat) (a:Act),HL j w jl L H->(∀t,t∈o.looksAt ops->bz j w jl (get ts t) (a.tmps.getD t undef)) ->
   ∀(K:Act->World->Prop) (Q:Exit->Act->World->Prop),
    (∀cv j' w' b,bz j' w' b v cv->HL j' w' b (bif fx.wl then aM else L) (bif fx.wh then h' else H)->Ext jl b ->
     bV j w (aV j H jl) j' w' (aV j' (bif fx.wh then h' else H) b)->K (a.put o.dst cv) w') ->
    if Region.wanted o (yielded ops a.tmps) then o.wp P a w K Q else K (a.put o.dst undef) w
theorem Ep {j:J}{w:World}{jl:List Nat}{ts:Ts}{a:Act}{ops:Array Oper}{o:Oper}(h:∀t,t∈o.looksAt ops->bz j w jl (get ts t) (a.tmps.getD t undef)) :
  ∀x,x∈o.op.operands->bz j w jl (ev ts x) (a.eval x):=by
 intro x hx;cases x with
 | tmp t=>exact h t (by simp only [Oper.looksAt,List.mem_append,List.mem_filterMap]; exact .inl ⟨.tmp t,by simpa using hx,rfl⟩)
 | const v=>exact oQ (ts:=[]) (a:=⟨#[],[]⟩) (fun _=>trivial) (.const v)
 | global g=>trivial
 | func f=>exact oQ (ts:=[]) (a:=⟨#[],[]⟩) (fun _=>trivial) (.func f)
theorem Lo {ops:Array Oper}{o:Oper}{d:Nat}{want:Bool}(hg:guardOf ops o=some (d,want)):d∈o.looksAt ops:=by
 unfold guardOf at hg
 split at hg
 ·simp at hg
 ·rename_i g i b
  split at hg
  ·rename_i j f
   simp only [Option.some.injEq,Prod.mk.injEq] at hg;obtain⟨rfl,rfl⟩:=hg;simp only [Oper.looksAt,b,List.mem_append]
   right
   rw [f]; simp
  ·simp at hg
section
variable {P:Program}{ops:Array Oper}{o:Oper}{n:Nat}{ts:Ts}{ls aM:List (List D)}{h h':ai}{fx:Fx}{v:V}
theorem ni.plain (b:ar P o ts ls h fx v aM h') (hg:o.guard=none) (f:kT o.dst n=true):ni P ops n o ts ls h fx v aM h':=by
 refine⟨f,fun L H g hH j w jl a hl i K Q hk=>?_⟩;rw [if_pos (sv hg)];exact b L H g hH j w jl a hl (Ep i) K Q fun _ _ _ cv j' w' k ⟨l,m,p⟩=>by subst l m p; exact hk cv j' w' k
end
def qz (o:Oper) (acc:List Nat):Nat:=o.after.toList.foldl (fun s e=>bif Region.binds .any e then s ||| (2 ^ e.on) ||| acc.getD e.on 0 else s) 0
def jj:List Oper->List Nat->List Nat
 | [],acc=>acc
 | o::r,acc=>jj r (acc++[qz o acc])
theorem Er:∀(l:List Oper) (acc:List Nat),(jj l acc).length=acc.length+l.length/\(jj l acc).take acc.length=acc /\
  ∀k o,l[k]?=some o->(jj l acc)[acc.length+k]?=some (qz o ((jj l acc).take (acc.length+k)))
 | [],acc=>by simp [jj]
 | o::r,acc=>by
  obtain⟨h1,b,f⟩:=Er r (acc++[qz o acc]);simp only [List.length_append,List.length_cons,List.length_nil] at h1 b f;have g:(jj r (acc++[qz o acc])).take acc.length=acc:=by
   have:=congrArg (List.take acc.length) b;rw [List.take_take] at this
   simpa using this
  refine⟨by simp only [jj]; rw [h1]; simp; omega,g,fun k o' hk=>?_⟩;simp only [jj];cases k with
  | zero =>
   simp only [List.getElem?_cons_zero,Option.some.injEq] at hk;subst hk;rw [Nat.add_zero,g];have i:((jj r (acc++[qz o acc])).take (acc.length+(0+1)))[acc.length]?=(acc++[qz o acc])[acc.length]?:=by rw [b]
   rw [List.getElem?_take_of_lt (by omega)] at i;rw [i]; simp
  | succ k =>
   simp only [List.getElem?_cons_succ] at hk;have:=f k o' hk;have e:acc.length+(0+1)+k=acc.length+(k+1):=by omega
   rw [e] at this;exact this
theorem Es (acc:List Nat) (p:Nat):∀(es:List Edge) (s:Nat),(es.foldl (fun s e=>bif Region.binds .any e then s ||| (2 ^ e.on) ||| acc.getD e.on 0 else s) s).testBit p=true ->
  s.testBit p=true\/∃e,e∈es/\Region.binds .any e=true/\(p=e.on\/(acc.getD e.on 0).testBit p=true)
 | [],s,h=>.inl h
 | e::es,s,h=>by
  simp only [List.foldl_cons] at h;rcases Es acc p es _ h with h1|⟨f,h1,g,i⟩
  ·cases b:Region.binds .any e with
   | false=>rw [b] at h1; exact .inl h1
   | true =>
    rw [b] at h1;simp only [cond_true,Nat.testBit_or,Bool.or_eq_true] at h1;rcases h1 with (h1|h1)|h1
    ·exact .inl h1
    ·exact .inr ⟨e,by simp,b,.inl (by rw [Nat.testBit_two_pow] at h1; exact(of_decide_eq_true h1).symm)⟩
    ·exact .inr ⟨e,by simp,b,.inr h1⟩
  ·exact .inr ⟨f,by simp [h1],g,i⟩
def Fx.ir (x y:Fx):Bool:=(x.wl&&(y.rl||y.wl))||(y.wl&&x.rl)||(x.wh&&(y.rh||y.wh))||(y.wh&&x.rh)
def Fx.plain (x:Fx):Fx:={ x with nu:=false }
def Et (T:List Nat) (i k:Nat):Bool:=T.all fun m=>!m.testBit k||m.testBit i
def Eu (ops:Array Oper) (T:List Nat) (l:List (Oper×Fx)):Bool :=
 (List.range l.length).all fun k=>match l[k]? with
  | none=>true
  | some (ok,b)=>ok.after.toList.all (fun e=>!Region.binds .any e||Nat.blt e.on k) &&
   (List.range k).all fun i=>match l[i]? with
    | none=>true
    | some (oi,f)=>(T.getD k 0).testBit i||(oi.apart ops ok&&!f.ir b)||(b.nu&&oi.apart ops ok&&Et T i k)
def wJ (ops:Array Oper) (b:List Fx):Bool:=Eu ops (jj ops.toList []) (ops.toList.zip b)
def ord (ops:Array Oper) (i k:Nat):Prop:=((jj ops.toList []).getD k 0).testBit i=true
def sw (P:Program) (o:Oper) (v:V) (ls aM:List (List D)):Prop :=
 ∃(z:List D) (d:Nat),o.guard=none/\o.dst=some d/\v=.cZ ls.length 0/\aM=ls++[z] /\
  ∃(cs:List Value) (e:TypeId),(∀j w,aY (aI j w) z cs) /\
   ∀(a:Act) (w:World) (K:Act->World->Prop) (Q:Exit->Act->World->Prop),K (a.put o.dst (.pointer (some ⟨w.heap.size,0,none⟩))) (w.alloc (.cells cs.toArray e))->o.wp P a w K Q
def zq [bK] (P:Program) (ops:Array Oper) (n:Nat) (S:Nat->St) (fx:Nat->Fx) (v:Nat->V) (k:Nat) (o:Oper):Prop :=
 ni P ops n o (S k).ts (S k).ls (S k).h (fx k) (v k) (S (k+1)).ls (S (k+1)).h/\(S (k+1)).n=(S k).n/\(S (k+1)).ts=jQ o.dst (v k) (S k).ts /\
  ((fx k).wl=false->(S (k+1)).ls=(S k).ls)/\((fx k).wh=false->(S (k+1)).h=(S k).h) /\
  ((fx k).nu=true->(fx k).wl=true/\(fx k).wh=false/\sw P o (v k) (S k).ls (S (k+1)).ls)
def au [bK] (P:Program) (ops:Array Oper) (n:Nat) (l:List Oper) (done:List Fx) (Q:St->Prop) (σ:St):Prop :=
 ∃(S:Nat->St) (fx:Nat->Fx) (v:Nat->V),S 0=σ/\(∀k o,l[k]?=some o->zq P ops n S fx v k o) /\
  wJ ops (done.reverse++(List.range l.length).map fx)=true/\Q (S l.length)
theorem au.nil {P:Program}{ops:Array Oper}{n:Nat}{done:List Fx}{Q:St->Prop}{σ:St}(hc:wJ ops done.reverse=true) (hq:Q σ):au P ops n [] done Q σ :=
 ⟨fun _=>σ,fun _=>{},fun _=>.any,rfl,by simp,by simpa using hc,hq⟩
theorem au.Ev {P:Program}{ops:Array Oper}{o:Oper}{rest:List Oper}{n:Nat}{done:List Fx}{Q:St->Prop}{ts:Ts}{ls aM:List (List D)}{h h':ai}{fx:Fx}{v:V}
  (hc:ni P ops n o ts ls h fx v aM h') (i:fx.nu=true->fx.wl=true/\fx.wh=false/\sw P o v ls aM)
  (hr:au P ops n rest (fx::done) Q ⟨n,jQ o.dst v ts,(bif fx.wl then aM else ls),(bif fx.wh then h' else h)⟩) :
  au P ops n (o::rest) done Q ⟨n,ts,ls,h⟩:=by
 obtain⟨S,f,u,h0,h1,l,m⟩:=hr;refine⟨fun k=>match k with|0=>⟨n,ts,ls,h⟩|k+1=>S k,fun k=>match k with|0=>fx|k+1=>f k,fun k=>match k with|0=>v|k+1=>u k,rfl, ?_, ?_,m⟩
 ·intro k o' hk;cases k with
  | zero =>
   simp only [List.getElem?_cons_zero,Option.some.injEq] at hk;subst hk;unfold zq;dsimp only;rw [h0];refine⟨⟨hc.1,fun L H p hH j w jl a hl q K Q hk=>?_⟩,rfl,rfl,fun e=>by simp [e],fun e=>by simp [e],fun e=>?_⟩
   ·have:=hc.2 L H p hH j w jl a hl q K Q
    revert hk
    cases b:fx.wl<;>cases g:fx.wh<;>simp only [b,g,cond_true,cond_false] at this ⊢<;>exact this
   ·obtain⟨b,g,r⟩:=i e;exact⟨b,g,by rw [b]; exact r⟩
  | succ k =>
   simp only [List.getElem?_cons_succ] at hk;exact h1 k o' hk
 ·rw [List.length_cons,List.range_succ_eq_map,List.map_cons,List.map_map]
  simpa [Function.comp_def] using l
theorem au.cons {P:Program}{ops:Array Oper}{o:Oper}{rest:List Oper}{n:Nat}{done:List Fx}{Q:St->Prop}{ts:Ts}{ls aM:List (List D)}{h h':ai}{fx:Fx}{v:V}
  (hc:ni P ops n o ts ls h fx v aM h') (hr:au P ops n rest (fx.plain::done) Q ⟨n,jQ o.dst v ts,(bif fx.wl then aM else ls),(bif fx.wh then h' else h)⟩) :
  au P ops n (o::rest) done Q ⟨n,ts,ls,h⟩ :=
 au.Ev (fx:=fx.plain) hc (fun e=>by cases e) hr
theorem au.born {P:Program}{ops:Array Oper}{o:Oper}{rest:List Oper}{n:Nat}{done:List Fx}{Q:St->Prop}{ts:Ts}{ls aM:List (List D)}{h:ai}{v:V}
  (b:sw P o v ls aM) (f:kT o.dst n=true) (hr:au P ops n rest ({ wl:=true,nu:=true }::done) Q ⟨n,jQ o.dst v ts,aM,h⟩):au P ops n (o::rest) done Q ⟨n,ts,ls,h⟩:=by
 refine au.Ev (fx:={ wl:=true,nu:=true }) (h':=h) ⟨f,fun L H g hH j w jl a hl q K Q hk=>?_⟩ (fun _=>⟨rfl,rfl,b⟩) hr;obtain⟨z,d,hg,r,hv,k,cs,e,l,hw⟩:=b;rw [if_pos (sv hg)];have m:=g rfl;subst m;obtain⟨h1,p⟩:=hl.loc cs e z (l j w);refine hw a w K Q (hk _ j _ (jl++[w.heap.size]) ?_ ?_ (fun i x hx=>by rw [List.getElem?_append_left (List.getElem?_eq_some_iff.1 hx).1]; exact hx) p)
 ·rw [hv]; exact⟨w.heap.size,by rw [hl.2.each.length]; simp,rfl⟩
 ·rw [k]; exact h1
def oS (ops:Array Oper) (fx:Nat->Fx) (i k:Nat):Prop:=i<k/\(fx k).nu=true/\∃oi ok,ops[i]?=some oi/\ops[k]?=some ok/\oi.apart ops ok=true/\∀m,ord ops k m->ord ops i m
def vo (ops:Array Oper) (fx:Nat->Fx) (i k:Nat):Prop:=ord ops i k\/oS ops fx i k
section
variable {P:Program}{ops:Array Oper}{n:Nat}{S:Nat->St}{fx:Nat->Fx}{v:Nat->V}
theorem Lp (hc:wJ ops ((List.range ops.toList.length).map fx)=true) :
  (∀k o,ops[k]?=some o->∀e,e∈o.after.toList->Region.binds .any e=true->e.on<k) /\
  (∀i k oi ok,i<k->ops[i]?=some oi->ops[k]?=some ok->vo ops fx i k\/(oi.apart ops ok=true/\(fx i).ir (fx k)=false)):=by
 have b:∀k o,ops[k]?=some o->(ops.toList.zip ((List.range ops.toList.length).map fx))[k]?=some (o,fx k):=by
  intro k o hk;have bw:k<ops.size:=by
   rcases Nat.lt_or_ge k ops.size with h|h
   ·exact h
   ·rw [Array.getElem?_eq_none h] at hk; simp at hk
  rw [List.getElem?_zip_eq_some];refine⟨by simpa using hk, ?_⟩;simp [bw]
 have hlen:∀k o,ops[k]?=some o->k<(ops.toList.zip ((List.range ops.toList.length).map fx)).length:=by
  intro k o hk;have:=b k o hk;exact(List.getElem?_eq_some_iff.1 this).1
 unfold wJ Eu at hc;rw [List.all_eq_true] at hc;constructor
 ·intro k o hk e he j;have:=hc k (List.mem_range.2 (hlen k o hk));rw [b k o hk] at this;simp only [Bool.and_eq_true,List.all_eq_true] at this;have h1:=this.1 e he;rw [j] at h1
  simpa [Nat.blt_eq] using h1
 ·intro i k oi ok g hi hk;have:=hc k (List.mem_range.2 (hlen k ok hk));rw [b k ok hk] at this;simp only [Bool.and_eq_true,List.all_eq_true] at this;have h1:=this.2 i (List.mem_range.2 g);rw [b i oi hi] at h1;simp only [Bool.or_eq_true,Bool.and_eq_true] at h1;rcases h1 with (h1|h1)|h1
  ·exact .inl (.inl h1)
  ·exact .inr ⟨h1.1,by simpa using h1.2⟩
  ·refine .inl (.inr ⟨g,h1.1.1,oi,ok,hi,hk,h1.1.2,fun m hm=>?_⟩);have f:=h1.2;unfold Et at f;rw [List.all_eq_true] at f;unfold ord at hm ⊢;rw [List.getD_eq_getElem?_getD] at hm ⊢;cases c:(jj ops.toList [])[m]? with
   | none=>rw [c] at hm; simp at hm
   | some x =>
    rw [c,Option.getD_some] at hm;rw [Option.getD_some];have:=f x (List.mem_of_getElem? c);rw [hm] at this
    simpa using this
theorem Lq (bw:∀k o,ops[k]?=some o->∀e,e∈o.after.toList->Region.binds .any e=true->e.on<k){i k:Nat}(h:ord ops i k) :
  ∃o e,ops[k]?=some o/\e∈o.after.toList/\Region.binds .any e=true/\(i=e.on\/ord ops i e.on):=by
 obtain⟨h1,g,b⟩:=Er ops.toList [];simp only [List.length_nil,Nat.zero_add] at h1 b;unfold ord at h;cases hk:ops[k]? with
 | none =>
  have:ops.toList.length<=k:=by
   rcases Nat.lt_or_ge k ops.size with c|c
   ·rw [Array.getElem?_eq_getElem c] at hk; simp at hk
   ·simpa using c
  rw [List.getD_eq_getElem?_getD,List.getElem?_eq_none (by omega)] at h;simp at h
 | some o =>
  have hm:=b k o (by simpa using hk);rw [List.getD_eq_getElem?_getD,hm,Option.getD_some] at h;unfold qz at h;rcases Es _ i _ _ h with c|⟨e,he,f,c⟩
  ·simp at c
  ·refine⟨o,e,rfl,he,f,c.imp id fun c=>?_⟩;have hl:=bw k o hk e he f;unfold ord;rw [List.getD_eq_getElem?_getD,List.getElem?_take_of_lt hl,<- List.getD_eq_getElem?_getD] at c;exact c
end
end Go.Ab
/-
 A region that draws its order: every order comes to the same end.
-/
namespace Go.Ab
open Go Go.RowKit
variable {ax:bK}
variable {fM:eN}
def bt (a_:Array Bool) (i:Nat):Prop:=a_.getD i false=true
structure Inv [bK] [eN] (ops:Array Oper) (S:Nat->St) (fx:Nat->Fx) (v:Nat->V) (n:Nat) (j0:J) (w0:World) (O0:Nat->Prop) (cw a_:Array Bool) (lim:List (Nat×Nat)) (tv:Nat->Value) (j:J) (w:World) (jl:List Nat) (a:Act):Prop where
 nj:cw.size=ops.size
 uK:a_.size=ops.size
 jk:∀i,bt cw i↔(bt a_ i\/∃b,(i,b)∈lim)
 oU:∀k,bt cw k->∀p,ord ops p k->bt cw p
 closed:∀k,bt a_ k->∀p,vo ops fx p k->bt a_ p
 defers:a.defers=eN.ds
 sx:a.tmps.size=n
 agree:∀t,(∀m b o,(m,b)∈lim->ops[m]?=some o->o.dst≠some t)->a.tmps.getD t undef=tv t
 tm:∀t,∃k,k<=ops.size/\(∀p o,ops[p]?=some o->o.dst=some t->(bt a_ p↔p<k))/\bz j w jl (get (S k).ts t) (tv t)
 st:∃kl kh,kl<=ops.size/\kh<=ops.size/\(∀p,p<ops.size->(fx p).wl=true->(bt a_ p↔p<kl))/\(∀p,p<ops.size->(fx p).wh=true->(bt a_ p↔p<kh)) /\
  HL j w jl (S kl).ls (S kh).h/\bV j0 w0 O0 j w (aV j (S kh).h jl)/\∀m b,(m,b)∈lim->w0.heap.size<=b/\b<w.heap.size/\¬aV j (S kh).h jl b
 nd:lim.Pairwise fun x y=>x.1≠y.1/\x.2≠y.2
 qA:∀m b,(m,b)∈lim->¬bt a_ m/\(fx m).nu=true/\(∀p,ord ops p m->bt a_ p)/\∃o z d cs e,ops[m]?=some o/\o.dst=some d/\v m=.cZ (S m).ls.length 0/\(S (m+1)).ls=(S m).ls++[z] /\
  (∀j w,aY (aI j w) z cs)/\w.heap[b]?=some (.cells cs.toArray e (0,0))/\j.F b=0/\a.tmps.getD d undef=.pointer (some ⟨b,0,none⟩)
section
variable {P:Program}{ops:Array Oper}{n:Nat}{S:Nat->St}{fx:Nat->Fx}{v:Nat->V}
theorem Ew {α:Type}(f:Nat->α){N:Nat}(W:Nat->Prop) (g:∀k,k<N->¬W k->f (k+1)=f k) :
  ∀(a b:Nat),a<=b->b<=N->(∀p,a<=p->p<b->¬W p)->f b=f a:=by
 intro a b j;induction b with
 | zero =>
  intro _ _;have:a=0:=by omega
  rw [this]
 | succ b i =>
  intro l hw;by_cases e:a=b+1
  ·rw [e]
  ·rw [g b (by omega) (hw b (by omega) (by omega))];exact i (by omega) (by omega) fun p h1 m=>hw p h1 (by omega)
theorem sy {α:Type}(f:Nat->α){N:Nat}(W X:Nat->Prop) (g:∀k,k<N->¬W k->f (k+1)=f k){k i:Nat}(hk:k<=N) (hi:i<=N)
  (h1:∀p,p<N->W p->(X p↔p<k)) (j:∀p,p<N->W p->(X p↔p<i)):f k=f i:=by
 rcases Nat.le_total k i with h|h
 ·exact(Ew f W g k i h hi fun p a b hw=>by have:=(j p (by omega) hw).2 b; have:=(h1 p (by omega) hw).1 this; omega).symm
 ·exact Ew f W g i k h hk fun p a b hw=>by have:=(h1 p (by omega) hw).2 b; have:=(j p (by omega) hw).1 this; omega
theorem Ex {a_:Array Bool}{i:Nat}(h:i∈Region.ready .any ops a_) (g:a_.size=ops.size) :
  ∃o,ops[i]?=some o/\i<ops.size/\¬bt a_ i/\∀e,e∈o.after.toList->Region.binds .any e=true->bt a_ e.on:=by
 simp only [Region.ready,List.mem_filter,List.mem_range,Bool.and_eq_true,Bool.not_eq_true'] at h;obtain⟨bw,h1,b⟩:=h;refine⟨ops[i],by simp [bw],bw, ?_, ?_⟩
 ·unfold bt;rw [Array.getD_eq_getD_getElem?,Array.getElem?_eq_getElem (by omega)] at h1 ⊢;simp at h1 ⊢; exact h1
 ·intro e he f;rw [Array.getElem?_eq_getElem bw] at b;simp only [Option.map_some,Option.getD_some,Array.all_eq_true'] at b;have:=b e (by simpa using he);rw [f] at this
  simpa [bt] using this
theorem bt.set {a_:Array Bool}{i p:Nat}(hi:i<a_.size):bt (a_.setIfInBounds i true) p↔(p=i\/bt a_ p):=by
 unfold bt;rw [Array.getD_eq_getD_getElem?,Array.getElem?_setIfInBounds];by_cases e:i=p
 ·subst e; simp [hi]
 ·rw [if_neg e];constructor
  ·intro h; right; rw [Array.getD_eq_getD_getElem?]; exact h
  ·rintro (h|h)
   ·omega
   ·rw [Array.getD_eq_getD_getElem?] at h; exact h
variable (bw:∀k o,ops[k]?=some o->∀e,e∈o.after.toList->Region.binds .any e=true->e.on<k)
 (dN:∀i k oi ok,i<k->ops[i]?=some oi->ops[k]?=some ok->vo ops fx i k\/(oi.apart ops ok=true/\(fx i).ir (fx k)=false))
 (hS:∀k o,ops[k]?=some o->zq P ops n S fx v k o)
 {j0:J}{w0:World}{O0:Nat->Prop}
include bw in
theorem zu {a_:Array Bool}{i:Nat}{o:Oper}(l:ops[i]?=some o) (m:∀k,bt a_ k->∀p,ord ops p k->bt a_ p)
  (f:∀e,e∈o.after.toList->Region.binds .any e=true->bt a_ e.on){p:Nat}(h:ord ops p i):bt a_ p:=by
 obtain⟨o',e,h1,g,j,b⟩:=Lq bw h;rw [l] at h1; simp only [Option.some.injEq] at h1; subst h1;rcases b with b|b
 ·rw [b]; exact f e g j
 ·exact m e.on (f e g j) p b
include dN in
theorem uL {a_:Array Bool}{i:Nat}{o:Oper}(f:ops[i]?=some o) (g:¬bt a_ i) (l:∀k,bt a_ k->∀p,vo ops fx p k->bt a_ p)
  (m:∀p,vo ops fx p i->bt a_ p){p:Nat}{op:Oper}(j:ops[p]?=some op)
  (q:p<i->op.apart ops o=true->(fx p).ir (fx i)=false->False) (r:i<p->o.apart ops op=true->(fx i).ir (fx p)=false->False):bt a_ p↔p<i:=by
 rcases Nat.lt_trichotomy p i with h|h|h
 ·refine⟨fun _=>h,fun _=>?_⟩;rcases dN p i op o h j f with h1|⟨h1,b⟩
  ·exact m p h1
  ·exact(q h h1 b).elim
 ·subst h; exact⟨fun h=>(g h).elim,fun h=>by omega⟩
 ·refine⟨fun hr=>?_,fun h'=>by omega⟩;rcases dN i p o op h f j with h1|⟨h1,b⟩
  ·exact(g (l p hr i h1)).elim
  ·exact(r h h1 b).elim
theorem kU {i:Nat}(h:i<ops.size):ops[i]?=some ops[i]:=Array.getElem?_eq_getElem h
theorem qB {i:Nat}{o:Oper}(h:ops[i]?=some o):i<ops.size:=by
 rcases Nat.lt_or_ge i ops.size with h'|h'
 ·exact h'
 ·rw [Array.getElem?_eq_none h'] at h; simp at h
include hS in
theorem Ey (t:Nat):∀k,k<ops.size->¬(∃o,ops[k]?=some o/\o.dst=some t)->get (S (k+1)).ts t=get (S k).ts t:=by
 intro k hk hn;rw [(hS k _ (kU hk)).2.2.1];cases b:(ops[k]).dst with
 | none=>rfl
 | some d =>
  simp only [jQ];exact g_ _ _ fun e=>hn ⟨_,kU hk,by rw [b,e]⟩
include dN hS in
theorem wK {a_:Array Bool}{i kl:Nat}{o:Oper}(b:ops[i]?=some o) (f:¬bt a_ i) (g:∀k,bt a_ k->∀p,vo ops fx p k->bt a_ p) (j:∀p,vo ops fx p i->bt a_ p)
  (l:kl<=ops.size) (m:∀p,p<ops.size->(fx p).wl=true->(bt a_ p↔p<kl)) (hr:((fx i).rl||(fx i).wl)=true):(S kl).ls=(S i).ls :=
 sy (fun k=>(S k).ls) (fun p=>(fx p).wl=true) (bt a_) (fun k hk hn=>(hS k _ (kU hk)).2.2.2.1 (by simpa using hn)) l (Nat.le_of_lt (qB b)) m fun p q hw =>
  uL dN b f g j (kU q) (fun _ _ c=>by simp [Fx.ir] at c; simp only [Bool.or_eq_true] at hr; rcases hr with r|r<;>simp [r,hw] at c)
   (fun _ _ c=>by simp [Fx.ir] at c; simp only [Bool.or_eq_true] at hr; rcases hr with r|r<;>simp [r,hw] at c)
include dN hS in
theorem zw {a_:Array Bool}{i kh:Nat}{o:Oper}(b:ops[i]?=some o) (f:¬bt a_ i) (g:∀k,bt a_ k->∀p,vo ops fx p k->bt a_ p) (j:∀p,vo ops fx p i->bt a_ p)
  (l:kh<=ops.size) (m:∀p,p<ops.size->(fx p).wh=true->(bt a_ p↔p<kh)) (hr:((fx i).rh||(fx i).wh)=true):(S kh).h=(S i).h :=
 sy (fun k=>(S k).h) (fun p=>(fx p).wh=true) (bt a_) (fun k hk hn=>(hS k _ (kU hk)).2.2.2.2.1 (by simpa using hn)) l (Nat.le_of_lt (qB b)) m fun p q hw =>
  uL dN b f g j (kU q) (fun _ _ c=>by simp [Fx.ir] at c; simp only [Bool.or_eq_true] at hr; rcases hr with r|r<;>simp [r,hw] at c)
   (fun _ _ c=>by simp [Fx.ir] at c; simp only [Bool.or_eq_true] at hr; rcases hr with r|r<;>simp [r,hw] at c)
include dN in
theorem zx {a_:Array Bool}{i k:Nat}{o:Oper}(l:i<a_.size) (m:ops[i]?=some o) (q:¬bt a_ i) (r:∀k,bt a_ k->∀p,vo ops fx p k->bt a_ p) (s:∀p,vo ops fx p i->bt a_ p)
  (W:Fx->Bool) (f:∀x y:Fx,W x=true->W y=true->x.ir y=true) (hw:∀p,p<ops.size->W (fx p)=true->(bt a_ p↔p<k)) :
  ∀p,p<ops.size->W (fx p)=true->(bt (a_.setIfInBounds i true) p↔p<(bif W (fx i) then i+1 else k)):=by
 intro p g b;rw [bt.set l];by_cases e:p=i
 ·subst e; simp [b]
 ·simp only [e,false_or];cases j:W (fx i) with
  | false=>simp only [cond_false]; exact hw p g b
  | true =>
   simp only [cond_true];have:=uL dN m q r s (kU g) (fun _ _ c=>by rw [f _ _ b j] at c; cases c) (fun _ _ c=>by rw [f _ _ j b] at c; cases c);rw [this]; omega
include dN hS in
theorem Ez {a_:Array Bool}{i:Nat}{o:Oper}{j j':J}{w w':World}{jl l:List Nat}{tv m:Nat->Value}(q:i<a_.size) (g:ops[i]?=some o) (r:¬bt a_ i)
  (s:∀k,bt a_ k->∀p,vo ops fx p k->bt a_ p) (u:∀p,vo ops fx p i->bt a_ p) (hle:Le j w j' w') (hx:Ext jl l){cv:Value}(hv:bz j' w' l (v i) cv)
  (h1:∀t,o.dst=some t->m t=cv) (x:∀t,o.dst≠some t->m t=tv t)
  (y:∀t,∃k,k<=ops.size/\(∀p o,ops[p]?=some o->o.dst=some t->(bt a_ p↔p<k))/\bz j w jl (get (S k).ts t) (tv t)) :
  ∀t,∃k,k<=ops.size/\(∀p o,ops[p]?=some o->o.dst=some t->(bt (a_.setIfInBounds i true) p↔p<k))/\bz j' w' l (get (S k).ts t) (m t):=by
 intro t;have C:=qB g;by_cases ht:o.dst=some t
 ·refine⟨i+1,by omega,fun p op b f=>?_, ?_⟩
  ·rw [bt.set q];by_cases e:p=i
   ·subst e; simp
   ·have:=uL dN g r s u b (fun _ c _=>(Oper.apart_spec c).2.1 t f ht) (fun _ c _=>(Oper.apart_spec c).2.1 t ht f);rw [this]; omega
  ·rw [(hS i o g).2.2.1,ht,h1 t ht];simp only [jQ,ga];exact hv
 ·obtain⟨k,z,hw,B⟩:=y t;refine⟨k,z,fun p op b f=>?_, ?_⟩
  ·rw [bt.set q];have:p≠i:=fun e=>by subst e; rw [g] at b; simp only [Option.some.injEq] at b; subst b; exact ht f
   simp only [this,false_or]; exact hw p op b f
  ·rw [x t ht]; exact B.mono hle hx
theorem EA (x y:Fx) (hx:x.wl=true) (b:y.wl=true):x.ir y=true:=by simp [Fx.ir,hx,b]
theorem Lr (x y:Fx) (hx:x.wh=true) (b:y.wh=true):x.ir y=true:=by simp [Fx.ir,hx,b]
theorem wL {a_:Array Bool}{i:Nat}{R:Nat->Nat->Prop}(f:i<a_.size) (g:∀k,bt a_ k->∀p,R p k->bt a_ p) (j:∀p,R p i->bt a_ p) :
  ∀k,bt (a_.setIfInBounds i true) k->∀p,R p k->bt (a_.setIfInBounds i true) p:=by
 intro k hr p b;rw [bt.set f] at hr ⊢;rcases hr with hr|hr
 ·subst hr; exact .inr (j p b)
 ·exact .inr (g k hr p b)
theorem wM (a:Act) (dst:Option Tmp) (cv:Value) (t:Nat) (h:dst≠some t):(a.put dst cv).tmps.getD t undef=a.tmps.getD t undef:=by
 cases dst with
 | none=>rfl
 | some d =>
  have:d≠t:=fun e=>h (by rw [e]);simp [Act.put,Array.getD_eq_getD_getElem?,Array.getElem?_setIfInBounds,this]
theorem EB (a:Act) (t:Nat) (cv:Value) (h:t<a.tmps.size):(a.put (some t) cv).tmps.getD t undef=cv:=by
 simp [Act.put,Array.getD_eq_getD_getElem?,h]
theorem Ls {a_:Array Bool}{i m:Nat}{o b:Oper}(dN:∀i k oi ok,i<k->ops[i]?=some oi->ops[k]?=some ok->vo ops fx i k\/(oi.apart ops ok=true/\(fx i).ir (fx k)=false))
  (g:ops[i]?=some o) (hm:ops[m]?=some b) (t:m≠i) (q:¬bt a_ m) (r:∀p,vo ops fx p i->bt a_ p) (s:¬ord ops i m){d:Nat}(f:b.dst=some d):d∉o.looksAt ops/\o.dst≠some d:=by
 rcases Nat.lt_or_ge m i with h|h
 ·rcases dN m i b o h hm g with h1|⟨h1,_⟩
  ·exact(q (r m h1)).elim
  ·exact⟨(Oper.apart_spec h1).1 d f,fun e=>(Oper.apart_spec h1).2.1 d f e⟩
 ·have h:i<m:=by omega
  have:o.apart ops b=true:=by
   rcases dN i m o b h g hm with (h1|⟨_,_,oi,ok,j,l,h1,_⟩)|⟨h1,_⟩
   ·exact(s h1).elim
   ·rw [g] at j; rw [hm] at l; simp only [Option.some.injEq] at j l; subst j l; exact h1
   ·exact h1
  exact⟨(Oper.apart_spec this).2.2 d f,fun e=>(Oper.apart_spec this).2.1 d e f⟩
include bw dN hS in
theorem Lt {cw a_:Array Bool}{lim:List (Nat×Nat)}{tv:Nat->Value}{j:J}{w:World}{jl:List Nat}{a:Act}(hinv:Inv ops S fx v n j0 w0 O0 cw a_ lim tv j w jl a){i:Nat}{o:Oper}
  (f:ops[i]?=some o) (x:¬bt cw i) (Y:∀e,e∈o.after.toList->Region.binds .any e=true->bt cw e.on) (g:∀p,vo ops fx p i->bt a_ p)
  {K:Act->World->Prop}{Q:Exit->Act->World->Prop}(hk:∀Z j' w' y H,Inv ops S fx v n j0 w0 O0 (cw.setIfInBounds i true) (a_.setIfInBounds i true) lim Z j' w' y H->K H w'):wpOp P ops Q i K a w:=by
 have B:=qB f;have q:i<a_.size:=by rw [hinv.uK]; exact B
 have I:i<cw.size:=by rw [hinv.nj]; exact B
 have r:¬bt a_ i:=fun c=>x ((hinv.jk i).2 (.inl c));have L:∀b,(i,b)∉lim:=fun b c=>x ((hinv.jk i).2 (.inr ⟨b,c⟩));obtain⟨M,al,am,an,ao,ap⟩:=hS i o f;obtain⟨kl,kh,aa,ab,N,O,ad,ae,R⟩:=hinv.st;have af:=wK dN hS f r hinv.closed g aa N;have hH:=zw dN hS f r hinv.closed g ab O;have U:∀m b l d,(m,b)∈lim->ops[m]?=some l->l.dst=some d->d∉o.looksAt ops/\o.dst≠some d:=fun m b l d hm C E =>
  Ls dN f C (fun e=>L b (e▸hm)) (hinv.qA m b hm).1 g (fun c=>x (hinv.oU m ((hinv.jk m).2 (.inr ⟨b,hm⟩)) i c)) E
 have ag:∀t,t∈o.looksAt ops->bz j w jl (get (S i).ts t) (a.tmps.getD t undef):=by
  intro t ht;rw [hinv.agree t fun m b l hm C E=>(U m b l t hm C E).1 ht];obtain⟨k,hk,hw,hv⟩:=hinv.tm t;have:get (S k).ts t=get (S i).ts t :=
   sy (fun k=>get (S k).ts t) (fun p=>∃o,ops[p]?=some o/\o.dst=some t) (bt a_) (Ey hS t) hk (Nat.le_of_lt B) (fun p _ ⟨op,h1,s⟩=>hw p op h1 s) fun p _ ⟨op,h1,s⟩ =>
    uL dN f r hinv.closed g h1 (fun _ c _=>(Oper.apart_spec c).1 t s ht) (fun _ c _=>(Oper.apart_spec c).2.2 t s ht)
  rw [<- this]; exact hv
 have u:=M.2 (S kl).ls (S kh).h af hH j w jl a ad ag K Q fun cv j' w' y hv hl hx he =>
  hk (fun t=>if o.dst=some t then cv else tv t) j' w' y _ ?_
 ·unfold wpOp;simp only [f]
  split
  ·rename_i hw; rw [if_pos hw] at u; exact .inl u
  ·rename_i hw; rw [if_neg hw] at u; exact u
 ·have F:(S (bif (fx i).wh then i+1 else kh)).h=(bif (fx i).wh then(S (i+1)).h else(S kh).h):=by cases (fx i).wh<;>rfl
  refine⟨by simp [hinv.nj],by simp [hinv.uK],fun k=>?_,wL I hinv.oU fun p G=>zu bw f hinv.oU Y G,wL q hinv.closed g,by rw [put_defers]; exact hinv.defers,
   by rw [zp]; exact hinv.sx,fun t ht=>?_,Ez dN hS q f r hinv.closed g he.toLe hx hv (fun t e=>by simp [e]) (fun t e=>by simp [e]) hinv.tm, ?_,hinv.nd,fun m b hm=>?_⟩
  ·rw [bt.set I,bt.set q,hinv.jk k];constructor
   ·rintro (h|h|h)
    ·exact .inl (.inl h)
    ·exact .inl (.inr h)
    ·exact .inr h
   ·rintro ((h|h)|h)
    ·exact .inl h
    ·exact .inr (.inl h)
    ·exact .inr (.inr h)
  ·by_cases e:o.dst=some t
   ·rw [if_pos e,e];refine EB a t cv ?_;have W:=M.1;rw [e] at W;rw [hinv.sx]; simpa [kT,Nat.blt_eq] using W
   ·rw [if_neg e,wM a o.dst cv t e]; exact hinv.agree t ht
  ·refine⟨(bif (fx i).wl then i+1 else kl),(bif (fx i).wh then i+1 else kh),by cases (fx i).wl<;>simp<;>omega,by cases (fx i).wh<;>simp<;>omega,
    zx dN q f r hinv.closed g (·.wl) EA N,zx dN q f r hinv.closed g (·.wh) Lr O, ?_, ?_,fun m b hm=>?_⟩
   ·have ah:(S (bif (fx i).wl then i+1 else kl)).ls=(bif (fx i).wl then(S (i+1)).ls else(S kl).ls):=by cases (fx i).wl<;>rfl
    rw [ah,F]; exact hl
   ·rw [F]; exact ae.trans he
   ·obtain⟨g1,g2,g3⟩:=R m b hm;rw [F];exact⟨g1,Nat.lt_of_lt_of_le g2 he.size,fun c=>g3 (he.own b g2 c)⟩
  ·obtain⟨g1,g2,g0,l,z,d,cs,e,g3,g4,g5,g6,g7,g8,g9,g10⟩:=hinv.qA m b hm;obtain⟨aq,aj,ak⟩:=R m b hm;have X:=he.frame b aj ak;refine⟨fun c=>?_,g2,fun p G=>(bt.set q).2 (.inr (g0 p G)),l,z,d,cs,e,g3,g4,g5,g6,g7,by rw [X.1]; exact g8,by rw [X.2]; exact g9, ?_⟩
   ·rcases (bt.set q).1 c with c|c
    ·subst c; exact L b hm
    ·exact g1 c
   ·rw [wM a o.dst cv d (U m b l d hm g3 g4).2]; exact g10
include bw dN hS in
theorem Lu {cw a_:Array Bool}{lim:List (Nat×Nat)}{tv:Nat->Value}{j:J}{w:World}{jl:List Nat}{a:Act}(hinv:Inv ops S fx v n j0 w0 O0 cw a_ lim tv j w jl a){i:Nat}{o:Oper}
  (f:ops[i]?=some o) (y:¬bt cw i) (R:∀e,e∈o.after.toList->Region.binds .any e=true->bt cw e.on) (E:∀p,ord ops p i->bt a_ p) (F:(fx i).nu=true)
  {K:Act->World->Prop}{Q:Exit->Act->World->Prop}(hk:∀w' G b,Inv ops S fx v n j0 w0 O0 (cw.setIfInBounds i true) a_ ((i,b)::lim) tv j w' jl G->K G w'):wpOp P ops Q i K a w:=by
 have U:=qB f;have H:i<cw.size:=by rw [hinv.nj]; exact U
 have W:¬bt a_ i:=fun c=>y ((hinv.jk i).2 (.inl c));have I:∀b,(i,b)∉lim:=fun b c=>y ((hinv.jk i).2 (.inr ⟨b,c⟩));obtain⟨X,ay,az,aA,aB,Y⟩:=hS i o f;obtain⟨aC,aD,z,d,hg,l,hv,Z,cs,e,aa,ab⟩:=Y F;obtain⟨kl,kh,ad,ae,af,ag,s,L,B⟩:=hinv.st;have ah:d<a.tmps.size:=by
  have M:=X.1;rw [l] at M;rw [hinv.sx]; simpa [kT,Nat.blt_eq] using M
 have aj:∀m b g t,(m,b)∈lim->ops[m]?=some g->g.dst=some t->t≠d:=fun m b g t hm u ht e=>by
  subst e;have aE:m≠i:=fun e=>I b (e▸hm);have ak:¬ord ops i m:=fun c=>y (hinv.oU m ((hinv.jk m).2 (.inr ⟨b,hm⟩)) i c);rcases Nat.lt_or_ge m i with h|h
  ·rcases dN m i g o h u f with (h1|⟨_,_,oi,ok,q,r,h1,_⟩)|⟨h1,_⟩
   ·exact(hinv.qA m b hm).1 (E m h1)
   ·rw [u] at q; rw [f] at r; simp only [Option.some.injEq] at q r; subst q r; exact(Oper.apart_spec h1).2.1 t ht l
   ·exact(Oper.apart_spec h1).2.1 t ht l
  ·rcases dN i m o g (by omega) f u with (h1|⟨_,_,oi,ok,q,r,h1,_⟩)|⟨h1,_⟩
   ·exact ak h1
   ·rw [f] at q; rw [u] at r; simp only [Option.some.injEq] at q r; subst q r; exact(Oper.apart_spec h1).2.1 t l ht
   ·exact(Oper.apart_spec h1).2.1 t l ht
 have N:=s.data (ax:=ax) (.cells cs.toArray e) 0;rw [J.uI (s.1.fresh _ (Nat.le_refl _))] at N;obtain⟨al,O⟩:=N;unfold wpOp;simp only [f];rw [if_pos (sv hg)];refine .inl (ab a w K Q (hk _ _ w.heap.size ?_));refine⟨by simp [hinv.nj],hinv.uK,fun k=>?_,wL H hinv.oU fun p am=>zu bw f hinv.oU R am,hinv.closed,by rw [put_defers]; exact hinv.defers,by rw [zp]; exact hinv.sx,
  fun t ht=>?_,fun t=>?_,⟨kl,kh,ad,ae,af,ag,al,L.trans O,fun m b hm=>?_⟩, ?_,fun m b hm=>?_⟩
 ·rw [bt.set H,hinv.jk k];constructor
  ·rintro (h|h|⟨b,h⟩)
   ·exact .inr ⟨w.heap.size,by rw [h]; simp⟩
   ·exact .inl h
   ·exact .inr ⟨b,by simp [h]⟩
  ·rintro (h|⟨b,h⟩)
   ·exact .inr (.inl h)
   ·rcases List.mem_cons.1 h with h|h
    ·exact .inl (by simpa using congrArg Prod.fst h)
    ·exact .inr (.inr ⟨b,h⟩)
 ·have h1:o.dst≠some t:=ht i w.heap.size o (by simp) f;rw [wM a o.dst _ t h1];exact hinv.agree t fun m b g hm=>ht m b g (by simp [hm])
 ·obtain⟨k,h1,an,ao⟩:=hinv.tm t;exact⟨k,h1,an,ao.mono O.toLe (Ext.refl _)⟩
 ·rcases List.mem_cons.1 hm with h|h
  ·simp only [Prod.mk.injEq] at h;obtain⟨rfl,rfl⟩:=h;exact⟨L.size,by simp,fun c=>Nat.lt_irrefl _ (aV.lt s c)⟩
  ·obtain⟨g1,g2,g3⟩:=B m b h;exact⟨g1,by simp; omega,g3⟩
 ·refine List.pairwise_cons.2 ⟨fun x hx=>⟨fun c=>I x.2 (by have c:i=x.1:=c; rw [c]; exact hx),fun c=>?_⟩,hinv.nd⟩;have:=(B x.1 x.2 hx).2.1;simp only at c;omega
 ·rcases List.mem_cons.1 hm with h|h
  ·simp only [Prod.mk.injEq] at h;obtain⟨rfl,rfl⟩:=h;refine⟨W,F,E,o,z,d,cs,e,f,l,hv,Z,aa,heap_alloc_new w _,s.1.fresh _ (Nat.le_refl _), ?_⟩;rw [l]; exact EB a d _ ah
  ·obtain⟨g1,g2,g0,g,ap,C,aq,au,g3,g4,g5,g6,g7,g8,g9,g10⟩:=hinv.qA m b h;obtain⟨aF,aw,aG⟩:=B m b h;refine⟨g1,g2,g0,g,ap,C,aq,au,g3,g4,g5,g6,g7,by rw [uH aw]; exact g8,g9, ?_⟩;rw [wM a o.dst _ C (by rw [l]; intro c; simp only [Option.some.injEq] at c; exact aj m b g C h g3 g4 c.symm)];exact g10
theorem EC:∀{l:List (Nat×Nat)},l.Pairwise (fun x y=>x.1≠y.1/\x.2≠y.2)->∀{x y},x∈l->y∈l->x.1≠y.1->x.2≠y.2
 | [],_,_,_,hx,_,_=>by simp at hx
 | a::l,h,x,y,hx,i,hn=>by
  obtain⟨h1,j⟩:=List.pairwise_cons.1 h;rcases List.mem_cons.1 hx with ex|b<;>rcases List.mem_cons.1 i with f|g
  ·subst ex f; exact(hn rfl).elim
  ·subst ex; exact(h1 y g).2
  ·subst f; exact(h1 x b).2.symm
  ·exact EC j b g hn
include dN hS in
theorem Lv {cw a_:Array Bool}{lim:List (Nat×Nat)}{tv:Nat->Value}{j:J}{w:World}{jl:List Nat}{a:Act}(hinv:Inv ops S fx v n j0 w0 O0 cw a_ lim tv j w jl a){m b:Nat}
  (hm:(m,b)∈lim) (r:∀p,vo ops fx p m->bt a_ p):∃N,Inv ops S fx v n j0 w0 O0 cw (a_.setIfInBounds m true) (lim.filter fun x=>x.1 != m) N j w (jl++[b]) a:=by
 obtain⟨u,O,_,o,z,d,cs,e,l,P,hv,Q,R,U,W,X⟩:=hinv.qA m b hm;have Y:=qB l;have g:m<a_.size:=by rw [hinv.uK]; exact Y
 obtain⟨kl,kh,Z,aa,G,ab,q,B,H⟩:=hinv.st;obtain⟨ag,ah,I⟩:=H m b hm;obtain⟨K,ad,_⟩:=(hS m o l).2.2.2.2.2 O;have L:=wK dN hS l u hinv.closed r Z G (by rw [K]; simp);have hx:Ext jl (jl++[b]):=fun i x hx=>by rw [List.getElem?_append_left (List.getElem?_eq_some_iff.1 hx).1]; exact hx
 have C:∀m' b',(m',b')∈lim.filter (fun x=>x.1 != m)->(m',b')∈lim/\m'≠m:=fun m' b' h=>by
  rw [List.mem_filter] at h; exact⟨h.1,by simpa using h.2⟩
 refine⟨fun t=>if o.dst=some t then .pointer (some ⟨b,0,none⟩) else tv t,hinv.nj,by simp [hinv.uK],fun k=>?_,hinv.oU,wL g hinv.closed r,hinv.defers,hinv.sx,fun t ht=>?_,
  Ez dN hS g l u hinv.closed r (Le.refl j w) hx (cv:=.pointer (some ⟨b,0,none⟩)) ?_ (fun t e=>by simp [e]) (fun t e=>by simp [e]) hinv.tm,
  ⟨m+1,kh,by omega,aa, ?_,fun p E hw=>?_, ?_,{ B with own:=fun b' s f=>?_ },fun m' b' h=>?_⟩,hinv.nd.filter _,fun m' b' h=>?_⟩
 ·rw [bt.set g,hinv.jk k];constructor
  ·rintro (h|⟨b',h⟩)
   ·exact .inl (.inr h)
   ·by_cases e:k=m
    ·exact .inl (.inl e)
    ·exact .inr ⟨b',by rw [List.mem_filter]; exact⟨h,by simpa using e⟩⟩
  ·rintro ((h|h)|⟨b',h⟩)
   ·exact .inr ⟨b,h▸hm⟩
   ·exact .inl h
   ·exact .inr ⟨b',(C k b' h).1⟩
 ·by_cases e:o.dst=some t
  ·rw [if_pos e];rw [P] at e;simp only [Option.some.injEq] at e;subst e;exact X
  ·rw [if_neg e];refine hinv.agree t fun m' b' o' ae f=>?_;by_cases c:m'=m
   ·subst c; rw [l] at f; simp only [Option.some.injEq] at f; subst f; exact e
   ·exact ht m' b' o' (by rw [List.mem_filter]; exact⟨ae,by simpa using c⟩) f
 ·rw [hv];refine⟨b, ?_,rfl⟩;rw [<- L,q.2.each.length]; simp
 ·have:=zx dN g l u hinv.closed r (·.wl) EA G;rw [K] at this;exact this
 ·rw [bt.set g,<- ab p E hw];refine⟨fun c=>c.elim (fun e=>?_) id,.inr⟩;subst e; rw [ad] at hw; cases hw
 ·rw [Q,<- L];refine⟨q.1,q.2.each.append (.cons ⟨cs,e,U,R j w,W⟩ .nil), ?_,fun b' s f=>?_⟩
  ·rw [List.nodup_append];refine⟨q.2.nodup,by simp,fun x af y M=>?_⟩;simp at M; subst M;intro c; subst c; exact I (.inl af)
  ·rcases List.mem_append.1 s with h|h
   ·exact q.2.apart b' h f
   ·simp at h; subst h;rcases f with h|h
    ·simp at h
    ·exact I (.inr h)
 ·rcases f with h|h
  ·rcases List.mem_append.1 h with h|h
   ·exact B.own b' s (.inl h)
   ·simp at h; omega
  ·exact B.own b' s (.inr h)
 ·obtain⟨h1,F⟩:=C m' b' h;obtain⟨g1,g2,g3⟩:=H m' b' h1;refine⟨g1,g2,fun c=>?_⟩;rcases c with c|c
  ·rcases List.mem_append.1 c with c|c
   ·exact g3 (.inl c)
   ·simp at c;exact EC hinv.nd h1 hm F c
  ·exact g3 (.inr c)
 ·obtain⟨h1,F⟩:=C m' b' h;obtain⟨g1,g2,g0,g3⟩:=hinv.qA m' b' h1;exact⟨fun c=>((bt.set g).1 c).elim F g1,g2,fun p E=>(bt.set g).2 (.inr (g0 p E)),g3⟩
include dN hS in
theorem settle {j:J}{w:World}{a:Act}{cw:Array Bool}{C:Prop}:∀(N:Nat){a_:Array Bool}{lim:List (Nat×Nat)}{tv:Nat->Value}{jl:List Nat},lim.length<=N->Inv ops S fx v n j0 w0 O0 cw a_ lim tv j w jl a ->
  (∀a_ lim tv jl,Inv ops S fx v n j0 w0 O0 cw a_ lim tv j w jl a->(∀m b,(m,b)∈lim->∃p,oS ops fx p m/\¬bt a_ p)->C)->C:=by
 intro N;induction N with
 | zero =>
  intro a_ lim tv jl g hinv hC;have:lim=[]:=List.eq_nil_of_length_eq_zero (by omega);subst this;exact hC _ _ _ _ hinv fun m b h=>by simp at h
 | succ N i =>
  intro a_ lim tv jl g hinv hC;by_cases c:∃m b,(m,b)∈lim/\∀p,oS ops fx p m->bt a_ p
  ·obtain⟨m,b,hm,f⟩:=c;obtain⟨k,h⟩:=Lv dN hS hinv hm fun p h=>h.elim ((hinv.qA m b hm).2.2.1 p) (f p);refine i ?_ h hC;have:(lim.filter fun x=>x.1 != m).length<lim.length:=List.length_filter_lt_length_iff_exists.2 ⟨(m,b),hm,by simp⟩;omega
  ·refine hC _ _ _ _ hinv fun m b hm=>Classical.byContradiction fun c'=>c ⟨m,b,hm,fun p f=>Classical.byContradiction fun c2=>c' ⟨p,f,c2⟩⟩
theorem Lw {cw a_:Array Bool}{lim:List (Nat×Nat)}{tv:Nat->Value}{j:J}{w:World}{jl:List Nat}{a:Act}(hinv:Inv ops S fx v n j0 w0 O0 cw a_ lim tv j w jl a)
  (f:∀m b,(m,b)∈lim->∃p,oS ops fx p m/\¬bt a_ p){i:Nat}(g:∀p,ord ops p i->bt cw p):∀m b,(m,b)∈lim->ord ops m i->False:=by
 intro m;induction m using Nat.strongRecOn with
 | _ m k =>
  intro b hm l;obtain⟨p,o,hn⟩:=f m b hm;obtain⟨bw,_,_,_,_,_,_,q⟩:=o;have h1:=q i l;rcases (hinv.jk p).1 (g p h1) with h|⟨b',h⟩
  ·exact hn h
  ·exact k p bw b' h h1
theorem Lx {cw a_:Array Bool}{lim:List (Nat×Nat)}{tv:Nat->Value}{j:J}{w:World}{jl:List Nat}{a:Act}(hinv:Inv ops S fx v n j0 w0 O0 cw a_ lim tv j w jl a)
  (f:∀m b,(m,b)∈lim->∃p,oS ops fx p m/\¬bt a_ p) (g:∀p,p<ops.size->bt cw p):lim=[]:=by
 have:∀m b,(m,b)∈lim->False:=by
  intro m;induction m using Nat.strongRecOn with
  | _ m i =>
   intro b hm;obtain⟨p,k,hn⟩:=f m b hm;obtain⟨bw,_,oi,ok,l,_⟩:=k;rcases (hinv.jk p).1 (g p (qB l)) with h|⟨b',h⟩
   ·exact hn h
   ·exact i p bw b' h
 cases lim with
 | nil=>rfl
 | cons x r=>exact(this x.1 x.2 (by simp)).elim
include bw in
theorem Ly {a_:Array Bool}(i:a_.size=ops.size) (h:Region.ready .any ops a_=[]):∀p,p<ops.size->bt a_ p:=by
 intro p;induction p using Nat.strongRecOn with
 | _ p f =>
  intro b;rcases hr:a_.getD p false with _|_
  ·have:p∈Region.ready .any ops a_:=by
    simp only [Region.ready,List.mem_filter,List.mem_range,Bool.and_eq_true,Bool.not_eq_true'];refine⟨b, ?_, ?_⟩
    ·rw [Array.getD_eq_getD_getElem?,Array.getElem?_eq_getElem (by omega)] at hr ⊢
     simpa using hr
    ·rw [Array.getElem?_eq_getElem b];simp only [Option.map_some,Option.getD_some,Array.all_eq_true'];intro e he;cases g:Region.binds .any e with
     | false=>simp
     | true =>
      have hl:=bw p _ (kU b) e (by simpa using he) g;have:=f e.on hl (by omega)
      simpa [bt] using this
   rw [h] at this; simp at this
  ·exact hr
include bw dN hS in
theorem Lz {Q:Exit->Act->World->Prop}(R:∀j w jl a,fN j w jl (S ops.size) a->bV j0 w0 O0 j w (aV j (S ops.size).h jl)->(S ops.size).n=n->Q .normal a w) (hn:∀k,k<=ops.size->(S k).n=n) :
  ∀(fuel:Nat) (cw a_:Array Bool) (lim:List (Nat×Nat)) (tv:Nat->Value) (j:J) (w:World) (jl:List Nat) (a:Act),((List.range ops.size).filter fun i=>!cw.getD i false).length<=fuel ->
   Inv ops S fx v n j0 w0 O0 cw a_ lim tv j w jl a->(∀m b,(m,b)∈lim->∃p,oS ops fx p m/\¬bt a_ p)->wpAny P .any ops Q fuel cw a w:=by
 have fin:∀(cw a_:Array Bool) (lim:List (Nat×Nat)) (tv:Nat->Value) (j:J) (w:World) (jl:List Nat) (a:Act),Inv ops S fx v n j0 w0 O0 cw a_ lim tv j w jl a ->
   (∀m b,(m,b)∈lim->∃p,oS ops fx p m/\¬bt a_ p)->(∀p,p<ops.size->bt cw p)->Q .normal a w:=by
  intro cw a_ lim tv j w jl a hinv q I;have U:=Lx hinv q I;subst U;have r:∀p,p<ops.size->bt a_ p:=fun p f=>((hinv.jk p).1 (I p f)).elim id fun⟨b,h⟩=>by simp at h
  obtain⟨kl,kh,W,X,Y,Z,aa,ab,_⟩:=hinv.st;have ad:(S kl).ls=(S ops.size).ls:=sy (fun k=>(S k).ls) (fun p=>(fx p).wl=true) (bt a_) (fun k hk hn=>(hS k _ (kU hk)).2.2.2.1 (by simpa using hn)) W (Nat.le_refl _) Y
   fun p f _=>⟨fun _=>f,fun _=>r p f⟩
  have K:(S kh).h=(S ops.size).h:=sy (fun k=>(S k).h) (fun p=>(fx p).wh=true) (bt a_) (fun k hk hn=>(hS k _ (kU hk)).2.2.2.2.1 (by simpa using hn)) X (Nat.le_refl _) Z
   fun p f _=>⟨fun _=>f,fun _=>r p f⟩
  refine R j w jl a ⟨hinv.defers,by rw [hn _ (Nat.le_refl _)]; exact hinv.sx,fun t=>?_,by rw [<- ad,<- K]; exact aa⟩ (by rw [<- K]; exact ab) (hn _ (Nat.le_refl _));obtain⟨k,hk,hw,hv⟩:=hinv.tm t;have:get (S k).ts t=get (S ops.size).ts t :=
   sy (fun k=>get (S k).ts t) (fun p=>∃o,ops[p]?=some o/\o.dst=some t) (bt a_) (Ey hS t) hk (Nat.le_refl _) (fun p _ ⟨op,h1,g⟩=>hw p op h1 g) fun p f _ =>
    ⟨fun _=>f,fun _=>r p f⟩
  rw [<- this,hinv.agree t fun m b o h=>by simp at h]; exact hv
 intro fuel;induction fuel with
 | zero =>
  intro cw a_ lim tv j w jl a ae hinv q;have r:∀p,p<ops.size->bt cw p:=by
   intro p f;rcases hr:cw.getD p false with _|_
   ·have:p∈(List.range ops.size).filter fun i=>!cw.getD i false:=by simp only [List.mem_filter,List.mem_range]; exact⟨f,by rw [hr]; rfl⟩
    have:=List.length_pos_of_mem this; omega
   ·exact hr
  refine⟨?_,fin cw a_ lim tv j w jl a hinv q r⟩;rw [List.eq_nil_iff_forall_not_mem];intro i hi;obtain⟨_,_,u,l,_⟩:=Ex hi hinv.nj;exact l (r i u)
 | succ fuel L =>
  intro cw a_ lim tv j w jl a ae hinv q;refine⟨fun hr=>fin cw a_ lim tv j w jl a hinv q (Ly bw hinv.nj hr),fun i hi=>?_⟩;obtain⟨o,x,u,l,y⟩:=Ex hi hinv.nj;have M:i<cw.size:=by rw [hinv.nj]; exact u
  have N:((List.range ops.size).filter fun p=>!(cw.setIfInBounds i true).getD p false).length<=fuel:=by
   have ag:((List.range ops.size).filter fun p=>!(cw.setIfInBounds i true).getD p false).length<((List.range ops.size).filter fun p=>!cw.getD p false).length:=by
    have af:((List.range ops.size).filter fun p=>!(cw.setIfInBounds i true).getD p false)=((List.range ops.size).filter fun p=>!cw.getD p false).filter (fun p=>p != i):=by
     rw [List.filter_filter];refine List.filter_congr fun p _=>?_;by_cases z:p=i
     ·subst z;have s:bt (cw.setIfInBounds p true) p:=(bt.set M).2 (.inl rfl);unfold bt at s;rw [s]; simp
     ·have s:bt (cw.setIfInBounds i true) p↔bt cw p:=by rw [bt.set M]; simp [z]
      unfold bt at s;rcases h1:(cw.setIfInBounds i true).getD p false with _|_<;>rcases g:cw.getD p false with _|_<;>rw [h1,g] at s<;>simp at s<;>simp [z]
    rw [af];refine List.length_filter_lt_length_iff_exists.2 ⟨i, ?_,by simp⟩;simp only [List.mem_filter,List.mem_range];refine⟨u, ?_⟩;unfold bt at l;simp at l ⊢; exact l
   omega
  have O:∀p,ord ops p i->bt cw p:=fun p f=>zu bw x hinv.oU y f;have f:∀p,ord ops p i->bt a_ p:=fun p f=>((hinv.jk p).1 (O p f)).elim id fun⟨b,h⟩=>(Lw hinv q O p b h f).elim;by_cases c:∀p,oS ops fx p i->bt a_ p
  ·refine Lt bw dN hS hinv x l y (fun p h=>h.elim (f p) (c p)) fun ah j' w' aj B C=>?_;exact settle dN hS _ (Nat.le_refl _) C fun E F G H h1 g=>L _ E F G j' w' H B N h1 g
  ·have:(fx i).nu=true:=Classical.byContradiction fun c'=>c fun p f=>(c' f.2.1).elim;refine Lu bw dN hS hinv x l y f this fun w' B b C=>?_;exact settle dN hS _ (Nat.le_refl _) C fun E F G H h1 g=>L _ E F G j w' H B N h1 g
end
theorem au.wp {P:Program}(hm:P.follows .mixedOrders=true){id:Nat}{l:List Oper}{n:Nat}{Q:St->Prop}{σ:St}(z:au P l.toArray n l [] Q σ) (u:σ.n=n)
  {j:J}{w:World}{jl:List Nat}{a:Act}(g:fN j w jl σ a){x:Exit->Act->World->Prop}
  (hk:∀s j' w' q r,Q s->fN j' w' q s r->bV j w (aV j σ.h jl) j' w' (aV j' s.h q)->x .normal r w'):(Code.region id l.toArray true).wp P x a w:=by
 obtain⟨S,fx,v,h0,h1,B,C⟩:=z;have y:=Lp (ops:=l.toArray) (fx:=fx) (by simpa using B);have hS:∀k o,l.toArray[k]?=some o->_:=fun k o hk=>h1 k o (by simpa using hk);have hn:∀k,k<=l.toArray.size->(S k).n=n:=by
  intro k;induction k with
  | zero=>intro _; rw [h0,u]
  | succ k E=>intro hk; rw [(hS k _ (kU (by omega))).2.1]; exact E (by omega)
 refine wp_region_any hm ?_;refine Lz (n:=n) (S:=S) (fx:=fx) (v:=v) (j0:=j) (w0:=w) (O0:=aV j σ.h jl) y.1 y.2 hS (fun j' w' q r F he _=>hk (S l.toArray.size) j' w' q r (by simpa using C) F he) hn _ _ (Array.replicate l.toArray.size false) [] (fun t=>a.tmps.getD t undef) j w.drew jl a ?_ ?_ (fun m b h=>by simp at h)
 ·have:=List.length_filter_le (fun i=>!(Array.replicate l.toArray.size false).getD i false) (List.range l.toArray.size)
  simpa using this
 ·have f:∀p,¬bt (Array.replicate l.toArray.size false) p:=by
   intro p h;unfold bt at h;rw [Array.getD_eq_getD_getElem?,Array.getElem?_replicate] at h
   split at h<;>simp at h
  refine⟨by simp,by simp,fun i=>⟨fun h=>(f i h).elim,fun h=>h.elim (fun h=>(f i h).elim) fun⟨b,h⟩=>by simp at h⟩,fun k h=>(f k h).elim,fun k h=>(f k h).elim,g.defers,by rw [g.size,u],fun _ _=>rfl,
   fun t=>⟨0,Nat.zero_le _,fun p _ _ _=>⟨fun h=>(f p h).elim,fun h=>by omega⟩, ?_⟩,
   ⟨0,0,Nat.zero_le _,Nat.zero_le _,fun p _ _=>⟨fun h=>(f p h).elim,fun h=>by omega⟩,fun p _ _=>⟨fun h=>(f p h).elim,fun h=>by omega⟩, ?_, ?_,fun m b h=>by simp at h⟩,.nil,fun m b h=>by simp at h⟩
  ·rw [h0]; exact(g.tmps t).mono (bV.drew j w (aV j σ.h jl)).toLe (Ext.refl _)
  ·rw [h0]; exact g.hl.drew
  ·rw [h0]; exact bV.drew _ _ _
end Go.Ab
