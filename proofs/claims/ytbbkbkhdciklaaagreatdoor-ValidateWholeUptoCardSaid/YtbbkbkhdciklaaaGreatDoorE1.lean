import Derived.WalkKit
import Derived.Orders
import Derived.Laws.Rows
set_option maxRecDepth 100000
set_option maxHeartbeats 2000000
set_option linter.unusedVariables false
set_option linter.unusedSimpArgs false
/-
 The abstract reading of memory: plain data D,the ghost map J,when a Go value reads as a datum,and how a world may evolve. No program text.
-/
namespace Go.Ab
open Go Go.RowKit
inductive D where
 | bool (b:Bool)
 | int (k:IntKind) (n:Int)
 | str (s:List UInt8)
 | slice (k:Nat) (tok:Option Nat) (nil:Bool) (rows:List (List D))
 | arr (k id:Nat) (nl:Bool) (len:Nat)
 | jD (id m off:Nat)
 | ew
 | ptr (id off:Nat)
 | view (cells:List D)
 | k6
 | map (id:Nat)
 | nilFunc
 | func (f:FuncId) (cr:List D)
 | nx (f:FuncId) (bs:List D)
 | yield (l:Nat)
 | zW
 | nilIface
 | iface (t:TypeId) (x:D)
 deriving Inhabited
inductive A where
 | d (x:D)
 | agg (xs:List D)
 deriving Inhabited
inductive V where
 | any
 | a (x:A)
 | dH (i off:Nat)
 | b_ (xs:List A)
 | gd (c:Bool) (x:A)
 | g_ (c:Bool) (i off:Nat)
 | full (k:Nat) (rows:List (List D))
 | rH (c:Bool) (k:Nat) (rows:List (List D))
 | sm (c:Bool) (K:A->Prop)
 | pK (K:List A->Prop)
 deriving Inhabited
inductive Obj where
 | cells (xs:List D)
 | map (es:List (D×A))
 | tok (k m:Nat) (E:Option TypeId:=none)
 | arr (k:Nat) (rows:List (List D))
 | fix (b:Nat) (o:Go.Obj)
 | zX (T:TypeId) (xs:List D)
 | d_ (b:Nat) (o:Go.Obj)
 | pL (K:List D->Prop) (V:A->Prop)
abbrev ah:=Nat->Option Obj
def ah.set (h:ah) (i:Nat) (o:Option Obj):ah:=fun n=>if n=i then o else h n
structure Tk where
 ek:Option (Nat×Nat)
 m:Nat
structure J where
 out:Nat->Nat
 F:Nat->Nat
 tok:Nat->Option Tk
 next:Nat
inductive bI {α β:Type}(R:α->β->Prop):List α->List β->Prop where
 | nil:bI R [] []
 | cons {a b l m} (h:R a b) (t:bI R l m):bI R (a::l) (b::m)
theorem bI.imp {α β:Type}{R S:α->β->Prop}(h:∀a b,R a b->S a b){l:List α}{m:List β}(hl:bI R l m):bI S l m:=by
 induction hl with
 | nil=>exact .nil
 | cons x _ f=>exact .cons (h _ _ x) f
theorem bI.length {α β:Type}{R:α->β->Prop}{l:List α}{m:List β}(h:bI R l m):l.length=m.length:=by
 induction h with
 | nil=>rfl
 | cons _ _ b=>simp [b]
theorem bI.get {α β:Type}{R:α->β->Prop}{l:List α}{m:List β}(h:bI R l m):∀{i:Nat}{x:α},l[i]?=some x->∃y,m[i]?=some y/\R x y:=by
 induction h with
 | nil=>intro i x hx; simp at hx
 | cons hh _ b =>
  intro i x hx;cases i with
  | zero=>simp at hx; subst hx; exact⟨_,rfl,hh⟩
  | succ i=>simp at hx; simpa using b hx
theorem bI.get' {α β:Type}{R:α->β->Prop}{l:List α}{m:List β}(h:bI R l m):∀{i:Nat}{y:β},m[i]?=some y->∃x,l[i]?=some x/\R x y:=by
 induction h with
 | nil=>intro i x hx; simp at hx
 | cons hh _ b =>
  intro i x hx;cases i with
  | zero=>simp at hx; subst hx; exact⟨_,rfl,hh⟩
  | succ i=>simp at hx; simpa using b hx
theorem bI.k7 {α β:Type}{R:α->β->Prop}:∀{l:List α}{m:List β},l.length=m.length->(∀(i:Nat) x y,l[i]?=some x->m[i]?=some y->R x y)->bI R l m
 | [],[],_,_=>.nil
 | [],_::_,h,_=>by simp at h
 | _::_,[],h,_=>by simp at h
 | a::l,b::m,h,hr=>.cons (hr 0 a b rfl rfl) (bI.k7 (by simpa using h) fun i x y hx f=>hr (i+1) x y (by simpa using hx) (by simpa using f))
theorem bI.append {α β:Type}{R:α->β->Prop}{l l':List α}{m m':List β}(h:bI R l m) (h':bI R l' m'):bI R (l++l') (m++m'):=by
 induction h with
 | nil=>exact h'
 | cons x _ b=>exact .cons x b
theorem bI.set {α β:Type}{R:α->β->Prop}{l:List α}{m:List β}(h:bI R l m){a:α}{b:β}(hr:R a b) (i:Nat):bI R (l.set i a) (m.set i b):=by
 induction h generalizing i with
 | nil=>exact .nil
 | cons x t f =>
  cases i with
  | zero=>exact .cons hr t
  | succ i=>exact .cons x (f i)
theorem bI.take {α β:Type}{R:α->β->Prop}{l:List α}{m:List β}(h:bI R l m) (n:Nat):bI R (l.take n) (m.take n):=by
 induction h generalizing n with
 | nil=>simp; exact .nil
 | cons x t b =>
  cases n with
  | zero=>exact .nil
  | succ n=>exact .cons x (b n)
def dI:Nat:=140737488355328
def fD:Nat:=4611686018427387904
def tQ (j:J) (tok:Option Nat) (n:Nat) (a:Addr) (cap:Nat):Prop :=
 ∀t,tok=some t->t<j.next/\∀k,j.tok t=some k->n<=k.m/\(n=k.m->(k.ek=none/\cap=n)\/∃b,k.ek=some (b,cap)/\a=⟨b,0,none⟩)
def w6 (j:J) (id:Nat) (nl:Bool) (len:Nat) (a:Option Addr) (cap:Nat):Prop :=
 ∀tk,j.tok id=some tk->len<=tk.m/\(len=tk.m->(tk.ek=none/\nl=a.isNone/\cap=0)\/∃b,tk.ek=some (b,cap)/\a=some ⟨b,0,none⟩/\nl=false)
def Uz (w:World) (b o:Nat) (v:Value):Prop:=w.frozen? ⟨b,o,none⟩=false\/∃n,v=.int .u8 n
def At (j:J) (w:World) (a:Addr) (n:Nat) (cv:Nat->Value):Prop :=
 a.spot=none/\∀i,i<n->a.off+i<j.F a.block/\w.cell? ⟨a.block,a.off+i,none⟩=some (cv i)/\Uz w a.block (a.off+i) (cv i)
def rI (j:J) (w:World) (a:Addr) (rows:List (List D)) (cv:Nat->Value):Prop :=
 (rows=[]\/a.spot=none)/\∀i,i<rows.flatten.length->a.off+i<j.F a.block/\w.cell? ⟨a.block,a.off+i,none⟩=some (cv i)/\Uz w a.block (a.off+i) (cv i)
inductive aF (j:J) (w:World):D->Value->Prop
 | bool (b:Bool):aF j w (.bool b) (.bool b)
 | int (k:IntKind) (n:Int):aF j w (.int k n) (.int k n)
 | str (s:List UInt8) (h:s.length<=fD):aF j w (.str s) (.string ⟨s.toArray⟩)
 | gH (k:Nat) (tok:Option Nat) (ht:∀t,tok=some t->t<j.next):aF j w (.slice k tok true []) (.slice none 0 0)
 | slice (k:Nat) (tok:Option Nat) (rows:List (List D)) (a:Addr) (cap:Nat) (cv:Nat->Value)
   (hk:∀r∈rows,r.length=k) (hn:rows.length<=dI) (hc:rows.length<=cap)
   (bZ:rI j w a rows cv) (hr:∀i (h:i<rows.flatten.length),aF j w rows.flatten[i] (cv i))
   (ht:tQ j tok rows.length a cap):aF j w (.slice k tok false rows) (.slice (some a) rows.length cap)
 | arr (k id:Nat) (nl:Bool) (len:Nat) (a:Option Addr) (cap:Nat) (hid:id<j.next) (hv:w6 j id nl len a cap):aF j w (.arr k id nl len) (.slice a len cap)
 | jD (id m off b:Nat) (hid:id<j.next) (hv:∀tk,j.tok id=some tk->m<=tk.m/\(m=tk.m->∃c,tk.ek=some (b,c))):aF j w (.jD id m off) (.pointer (some ⟨b,off,none⟩))
 | ew:aF j w .ew (.pointer none)
 | ptr (id off:Nat) (h:id<j.next):aF j w (.ptr id off) (.pointer (some ⟨j.out id,off,none⟩))
 | view (cells:List D) (a:Addr) (cv:Nat->Value) (bZ:At j w a cells.length cv) (hr:∀i (h:i<cells.length),aF j w cells[i] (cv i)) :
   aF j w (.view cells) (.pointer (some a))
 | k6:aF j w .k6 (.map none)
 | map (id b:Nat) (hid:id<j.next) (hv:∀tk,j.tok id=some tk->1<=tk.m/\(tk.m=1->∃c,tk.ek=some (b,c))):aF j w (.map id) (.map (some b))
 | nilFunc:aF j w .nilFunc .nilFunc
 | func (f:FuncId) (cr:List D) (jk:List Value) (hl:cr.length=jk.length) (hr:∀i (h:i<cr.length) (h':i<jk.length),aF j w cr[i] jk[i]) :
   aF j w (.func f cr) (.func (.func f) #[] jk.toArray)
 | nx (f:FuncId) (bs:List D) (kr:List Value) (hl:bs.length=kr.length) (hr:∀i (h:i<bs.length) (h':i<kr.length),aF j w bs[i] kr[i]) :
   aF j w (.nx f bs) (.func (.func f) kr.toArray #[])
 | yield (l:Nat):aF j w (.yield l) (.func (.yield l) #[] #[])
 | zW (t:Fn) (b c:Array Value):aF j w .zW (.func t b c)
 | nilIface:aF j w .nilIface .nilIface
 | iface (t:TypeId) (x:D) (v:Value) (h:aF j w x v):aF j w (.iface t x) (.iface t v)
def cF (j:J) (w:World):A->Value->Prop
 | .d x,v=>aF j w x v
 | .agg xs,v=>∃cs:List Value,v=.agg cs.toArray/\bI (aF j w) xs cs
def bD (j:J) (w:World) (jl:List Nat):V->Value->Prop
 | .any,_=>True
 | .a x,v=>cF j w x v
 | .dH i off,v=>∃b,jl[i]?=some b/\v=.pointer (some ⟨b,off,none⟩)
 | .b_ xs,v=>∃cs:List Value,v=.tuple cs.toArray/\bI (cF j w) xs cs
 | .gd c x,v=>(c=true->cF j w x v)/\(c=false->v=.tuple #[])
 | .g_ c i off,v=>(c=true->∃b,jl[i]?=some b/\v=.pointer (some ⟨b,off,none⟩))/\(c=false->v=.tuple #[])
 | .rH c k rows,v=>(c=true->aF j w (.slice k none false rows) v/\∃a,v=.slice (some a) rows.length rows.length)/\(c=false->v=.tuple #[])
 | .full k rows,v=>aF j w (.slice k none false rows) v/\∃a,v=.slice (some a) rows.length rows.length
 | .sm c K,v=>(c=true->∃x,K x/\cF j w x v)/\(c=false->v=.tuple #[])
 | .pK K,v=>∃xs,K xs/\∃cs:List Value,v=.tuple cs.toArray/\bI (cF j w) xs cs
structure Le (j:J) (w:World) (j':J) (w':World):Prop where
 next:j.next<=j'.next
 out:∀id,id<j.next->j'.out id=j.out id
 F:∀b,j.F b<=j'.F b
 data:∀b o,o<j.F b->w'.cell? ⟨b,o,none⟩=w.cell? ⟨b,o,none⟩
 tok:∀t,t<j.next->j'.tok t=j.tok t\/∃k k',j.tok t=some k/\j'.tok t=some k'/\k.m<k'.m
 zY:∀b o v,o<j.F b->w.cell? ⟨b,o,none⟩=some v->Uz w b o v->Uz w' b o v
theorem Le.refl (j:J) (w:World):Le j w j w:=⟨Nat.le_refl _,fun _ _=>rfl,fun _=>Nat.le_refl _,fun _ _ _=>rfl,fun _ _=>.inl rfl,fun _ _ _ _ _ h=>h⟩
theorem Le.trans {j l m:J}{w p q:World}(h:Le j w l p) (h':Le l p m q):Le j w m q:=by
 refine⟨Nat.le_trans h.next h'.next,fun id hi=>(h'.out id (Nat.lt_of_lt_of_le hi h.next)).trans (h.out id hi),fun b=>Nat.le_trans (h.F b) (h'.F b),
  fun b o g=>(h'.data b o (Nat.lt_of_lt_of_le g (h.F b))).trans (h.data b o g),fun t ht=>?_,fun b o v g hv hz=>h'.zY b o v (Nat.lt_of_lt_of_le g (h.F b)) ((h.data b o g).trans hv) (h.zY b o v g hv hz)⟩
 rcases h'.tok t (Nat.lt_of_lt_of_le ht h.next) with e|⟨k,k',e,r,aJ⟩
 ·rw [e]; exact h.tok t ht
 ·rcases h.tok t ht with f|⟨y,z,f,s,u⟩
  ·exact .inr ⟨k,k',f▸e,r,aJ⟩
  ·rw [s] at e;simp only [Option.some.injEq] at e;subst e;exact .inr ⟨_,_,f,r,Nat.lt_trans u aJ⟩
theorem tQ.mono {j j':J}{w w':World}(hle:Le j w j' w'){tok:Option Nat}{n:Nat}{a:Addr}{cap:Nat}(h:tQ j tok n a cap):tQ j' tok n a cap:=by
 intro t ht;obtain⟨h1,h2⟩:=h t ht;refine⟨Nat.lt_of_lt_of_le h1 hle.next,fun k hk=>?_⟩;rcases hle.tok t h1 with e|⟨f,k',e,b,aJ⟩
 ·rw [e] at hk; exact h2 k hk
 ·rw [b] at hk;simp only [Option.some.injEq] at hk;subst hk;have:=(h2 _ e).1;exact⟨by omega,fun h=>by omega⟩
theorem w6.mono {j j':J}{w w':World}(hle:Le j w j' w'){id:Nat}{nl:Bool}{len:Nat}{a:Option Addr}{cap:Nat}(hid:id<j.next) (h:w6 j id nl len a cap):w6 j' id nl len a cap:=by
 intro tk hk;rcases hle.tok id hid with e|⟨f,k',e,b,aJ⟩
 ·rw [e] at hk; exact h tk hk
 ·rw [b] at hk;simp only [Option.some.injEq] at hk;subst hk;have:=(h _ e).1;exact⟨by omega,fun h=>by omega⟩
theorem At.mono {j j':J}{w w':World}(hle:Le j w j' w'){a:Addr}{n:Nat}{cv:Nat->Value}(h:At j w a n cv):At j' w' a n cv :=
 ⟨h.1,fun i hi=>⟨Nat.lt_of_lt_of_le (h.2 i hi).1 (hle.F _),(hle.data _ _ (h.2 i hi).1).trans (h.2 i hi).2.1,hle.zY _ _ _ (h.2 i hi).1 (h.2 i hi).2.1 (h.2 i hi).2.2⟩⟩
theorem rI.mono {j j':J}{w w':World}(hle:Le j w j' w'){a:Addr}{rows:List (List D)}{cv:Nat->Value}(h:rI j w a rows cv):rI j' w' a rows cv :=
 ⟨h.1,fun i hi=>⟨Nat.lt_of_lt_of_le (h.2 i hi).1 (hle.F _),(hle.data _ _ (h.2 i hi).1).trans (h.2 i hi).2.1,hle.zY _ _ _ (h.2 i hi).1 (h.2 i hi).2.1 (h.2 i hi).2.2⟩⟩
theorem aF.mono {j j':J}{w w':World}(hle:Le j w j' w'){x:D}{v:Value}(h:aF j w x v):aF j' w' x v:=by
 induction h with
 | bool b=>exact .bool b
 | int k n=>exact .int k n
 | str s h=>exact .str s h
 | gH k tok ht=>exact .gH k tok fun t h=>Nat.lt_of_lt_of_le (ht t h) hle.next
 | slice k tok rows a cap cv hk hn hc bZ hr ht g=>exact .slice k tok rows a cap cv hk hn hc (bZ.mono hle) g (ht.mono hle)
 | arr k id nl len a cap hid hv=>exact .arr k id nl len a cap (Nat.lt_of_lt_of_le hid hle.next) (hv.mono hle hid)
 | jD id m off b hid hv =>
  refine .jD id m off b (Nat.lt_of_lt_of_le hid hle.next) fun tk hk=>?_;rcases hle.tok id hid with e|⟨q,k',e,p,aJ⟩
  ·rw [e] at hk; exact hv tk hk
  ·rw [p] at hk;simp only [Option.some.injEq] at hk;subst hk;have:=(hv _ e).1;exact⟨by omega,fun h=>by omega⟩
 | ew=>exact .ew
 | ptr id off h =>
  rw [<- hle.out id h];exact .ptr id off (Nat.lt_of_lt_of_le h hle.next)
 | view cells a cv bZ hr g=>exact .view cells a cv (bZ.mono hle) g
 | k6=>exact .k6
 | map id b hid hv =>
  refine .map id b (Nat.lt_of_lt_of_le hid hle.next) fun tk hk=>?_;rcases hle.tok id hid with e|⟨q,k',e,p,aJ⟩
  ·rw [e] at hk; exact hv tk hk
  ·rw [p] at hk;simp only [Option.some.injEq] at hk;subst hk;have:=(hv _ e).1;exact⟨by omega,fun h=>by omega⟩
 | nilFunc=>exact .nilFunc
 | func f cr jk hl hr g=>exact .func f cr jk hl g
 | nx f bs kr hl hr g=>exact .nx f bs kr hl g
 | yield l=>exact .yield l
 | zW t b c=>exact .zW t b c
 | nilIface=>exact .nilIface
 | iface t x v h g=>exact .iface t x v g
theorem cF.mono {j j':J}{w w':World}(hle:Le j w j' w'){x:A}{v:Value}(h:cF j w x v):cF j' w' x v:=by
 cases x with
 | d x=>exact aF.mono hle h
 | agg xs=>obtain⟨cs,e,h⟩:=h; exact⟨cs,e,h.imp fun _ _ h=>h.mono hle⟩
def Ext (jl bp:List Nat):Prop:=∀(i b:Nat),jl[i]?=some b->bp[i]?=some b
theorem Ext.refl (jl:List Nat):Ext jl jl:=fun _ _ h=>h
theorem bD.mono {j j':J}{w w':World}(hle:Le j w j' w'){jl bp:List Nat}(hx:Ext jl bp){x:V}{v:Value}(h:bD j w jl x v):bD j' w' bp x v:=by
 cases x with
 | any=>trivial
 | a x=>exact cF.mono hle h
 | dH i off=>obtain⟨b,f,e⟩:=h; exact⟨b,hx i b f,e⟩
 | b_ xs=>obtain⟨cs,e,h⟩:=h; exact⟨cs,e,h.imp fun _ _ h=>h.mono hle⟩
 | gd c x=>exact⟨fun hc=>cF.mono hle (h.1 hc),h.2⟩
 | g_ c i off=>exact⟨fun hc=>let ⟨b,f,e⟩:=h.1 hc; ⟨b,hx i b f,e⟩,h.2⟩
 | full k rows=>exact⟨h.1.mono hle,h.2⟩
 | rH c k rows=>exact⟨fun hc=>⟨(h.1 hc).1.mono hle,(h.1 hc).2⟩,h.2⟩
 | sm c K=>exact⟨fun hc=>let ⟨x,k,r⟩:=h.1 hc; ⟨x,k,cF.mono hle r⟩,h.2⟩
 | pK K=>obtain⟨xs,k,cs,e,h⟩:=h; exact⟨xs,k,cs,e,h.imp fun _ _ h=>h.mono hle⟩
def bQ (j:J) (id:Nat):Obj->Option Nat
 | .tok _ _ _=>(j.tok id).bind fun k=>k.ek.map (·.1)
 | .arr _ _=>(j.tok id).bind fun k=>k.ek.map (·.1)
 | .map _=>(j.tok id).bind fun k=>k.ek.map (·.1)
 | .pL _ _=>(j.tok id).bind fun k=>k.ek.map (·.1)
 | .fix b _=>some b
 | .d_ b _=>some b
 | _=>some (j.out id)
def jE (j:J) (w:World) (e:D×A) (m:MapEntry):Prop:=aF j w e.1 m.key/\cF j w e.2 m.val
def k8 (b:List MapEntry) (bu:Nat):Prop:=(b.map (·.born)).Nodup/\(∀m∈b,m.born<bu)/\(b.map (·.key)).Nodup
def gJ (j:J) (w:World) (id:Nat):Obj->Prop
 | .cells xs=>∃(cs:List Value) (e:TypeId),w.heap[j.out id]?=some (.cells cs.toArray e (0,0))/\bI (aF j w) xs cs/\j.F (j.out id)=0
 | .map es=>∃(b c:Nat) (f:List MapEntry) (bu:Nat),j.tok id=some ⟨some (b,c),1⟩/\w.heap[b]?=some (.map f.toArray bu)/\bI (jE j w) es f/\j.F b=0/\k8 f bu
 | .zX T xs=>∃cs:List Value,w.heap[j.out id]?=some (.cells cs.toArray T (0,0))/\bI (aF j w) xs cs/\j.F (j.out id)=0
 | .tok k m E=>∃ek,j.tok id=some ⟨ek,m⟩/\(∀b cap,ek=some (b,cap)->∃(cs:Array Value) (e:TypeId),w.heap[b]?=some (.cells cs e (0,0))/\cs.size=cap*k/\j.F b=m*k/\m<=cap/\∀T,E=some T->e=T)/\(E.isSome=true->ek=none->m=0)
 | .pL K V=>∃(b c:Nat) (f:List MapEntry) (bu:Nat),j.tok id=some ⟨some (b,c),1⟩/\w.heap[b]?=some (.map f.toArray bu)/\(∀m∈f,(∃xs,K xs/\cF j w (.agg xs) m.key)/\∃v,V v/\cF j w v m.val)/\j.F b=0
 | .fix b o=>w.heap[b]?=some o
 | .d_ b o=>∃c,j.tok id=some ⟨some (b,c),1⟩/\w.heap[b]?=some o/\j.F b=0
 | .arr k rows=>∃ek,j.tok id=some ⟨ek,rows.length⟩/\(ek=none↔rows=[])/\(∀r∈rows,r.length=k)/\rows.length<=dI/\∀b cap,ek=some (b,cap) ->
   ∃(cs:List Value) (e:TypeId),w.heap[b]?=some (.cells cs.toArray e (0,0))/\cs.length=cap*k/\j.F b=0/\rows.length<=cap/\bI (aF j w) rows.flatten (cs.take (rows.length*k))
def Obj.tokd:Obj->Bool
 | .tok _ _ _=>true
 | .arr _ _=>true
 | .map _=>true
 | .pL _ _=>true
 | .fix _ _=>true
 | .d_ _ _=>true
 | _=>false
def aU (j:J) (h:ah) (jl:List Nat) (b:Nat):Prop:=b∈jl\/∃id o,h id=some o/\bQ j id o=some b
structure fI (j:J) (w:World) (h:ah):Prop where
 obj:∀id o,h id=some o->id<j.next/\gJ j w id o
 inj:∀jF o1 jG o2 b,h jF=some o1->h jG=some o2->bQ j jF o1=some b->bQ j jG o2=some b->jF=jG
 fresh:∀b,w.heap.size<=b->j.F b=0
def k9 (j:J) (w:World) (b:Nat) (xs:List D):Prop:=∃(cs:List Value) (e:TypeId),w.heap[b]?=some (.cells cs.toArray e (0,0))/\bI (aF j w) xs cs/\j.F b=0
structure Nn (j:J) (w:World) (h:ah) (ls:List (List D)) (jl:List Nat):Prop where
 each:bI (fun xs b=>k9 j w b xs) ls jl
 nodup:jl.Nodup
 apart:∀b,b∈jl->¬aU j h [] b
class bP where
 No:Prop
abbrev bP.on:bP:=⟨True⟩
abbrev bP.off:bP:=⟨False⟩
variable {ak:bP}
def fJ [bP] (w w':World):Prop:=w'.output=w.output/\(w.drawn<=w'.drawn\/bP.No)
theorem fJ.rfl {w w':World}(h1:w'.output=w.output:=by first|rfl|simp) (h2:w.drawn<=w'.drawn:=by first|exact Nat.le_refl _|exact Nat.le_succ _|simp):fJ w w':=⟨h1,.inl h2⟩
theorem fJ.trans {w f g:World}(h':fJ f g) (h:fJ w f):fJ w g:=⟨h'.1.trans h.1,h.2.elim (fun a=>h'.2.elim (fun b=>.inl (Nat.le_trans a b)) .inr) .inr⟩
structure bT [bP] (j:J) (w:World) (O:Nat->Prop) (j':J) (w':World) (O':Nat->Prop):Prop extends Le j w j' w' where
 size:w.heap.size<=w'.heap.size
 frame:∀b,b<w.heap.size->¬O b->w'.heap[b]?=w.heap[b]?/\j'.F b=j.F b
 own:∀b,b<w.heap.size->O' b->O b
 os:w'.os=w.os
 tape:w'.tape=w.tape
 output:fJ w w'
theorem bT.refl (j:J) (w:World) (O:Nat->Prop):bT j w O j w O :=
 ⟨Le.refl _ _,Nat.le_refl _,fun _ _ _=>⟨rfl,rfl⟩,fun _ _ h=>h,rfl,rfl,fJ.rfl⟩
theorem bT.trans {j k l:J}{w m p:World}{O q O2:Nat->Prop}(h:bT j w O k m q) (h':bT k m q l p O2):bT j w O l p O2:=by
 refine⟨h.toLe.trans h'.toLe,Nat.le_trans h.size h'.size,fun b f g=>?_,fun b f g=>h.own b f (h'.own b (Nat.lt_of_lt_of_le f h.size) g),h'.os.trans h.os,h'.tape.trans h.tape,h'.output.trans h.output⟩;have h1:=h.frame b f g;have h2:=h'.frame b (Nat.lt_of_lt_of_le f h.size) (fun r=>g (h.own b f r));exact⟨h2.1.trans h1.1,h2.2.trans h1.2⟩
theorem bT.drew (j:J) (w:World) (O:Nat->Prop):bT j w O j w.drew O :=
 ⟨⟨Nat.le_refl _,fun _ _=>rfl,fun _=>Nat.le_refl _,fun _ _ _=>rfl,fun _ _=>.inl rfl,fun _ _ _ _ _ h=>h⟩,Nat.le_refl _,fun _ _ _=>⟨rfl,rfl⟩,fun _ _ h=>h,rfl,rfl,fJ.rfl⟩
theorem bT.drop {j j':J}{w w':World}{O O' f:Nat->Prop}(h:bT j w O j' w' O') (g:∀b,f b->O' b):bT j w O j' w' f :=
 { h with own:=fun b k h'=>h.own b k (g b h') }
def V.under (c:Bool):V->V
 | .a x=>.gd c x
 | .dH i off=>.g_ c i off
 | .full k rows=>.rH c k rows
 | .sm d K=>.sm (c&&d) K
 | _=>.any
theorem V.G_ {j:J}{w:World}{jl:List Nat}{x:V}{v:Value}(h:bD j w jl x v):bD j w jl (x.under true) v:=by
 cases x with
 | a x=>exact⟨fun _=>h,fun e=>by cases e⟩
 | dH i off=>exact⟨fun _=>h,fun e=>by cases e⟩
 | full k rows=>exact⟨fun _=>h,fun e=>by cases e⟩
 | sm d K=>exact h
 | _=>trivial
theorem V.He {j:J}{w:World}{jl:List Nat}(x:V):bD j w jl (x.under false) (.tuple #[]):=by
 cases x with
 | a x=>exact⟨(fun e=>by cases e),fun _=>rfl⟩
 | dH i off=>exact⟨(fun e=>by cases e),fun _=>rfl⟩
 | full k rows=>exact⟨(fun e=>by cases e),fun _=>rfl⟩
 | sm d K=>exact⟨(fun e=>by cases e),fun _=>rfl⟩
 | _=>trivial
end Go.Ab
/-
 How the steps of the model change the abstract state: a new block of data,a new object,a new local,a store,an append.
-/
namespace Go.Ab
open Go Go.RowKit
variable {ak:bP}
def HL (j:J) (w:World) (jl:List Nat) (ls:List (List D)) (h:ah):Prop:=fI j w h/\Nn j w h ls jl
theorem iR {w:World}{b:Nat}{o:Go.Obj}(h:w.heap[b]?=some o):b<w.heap.size:=by
 rcases Nat.lt_or_ge b w.heap.size with h'|h'
 ·exact h'
 ·rw [Array.getElem?_eq_none h'] at h; simp at h
theorem gJ.Np {j:J}{w:World}{id:Nat}{o:Obj}(h:gJ j w id o){b:Nat}(f:bQ j id o=some b):b<w.heap.size:=by
 cases o with
 | cells xs=>obtain⟨cs,e,hh,_⟩:=h; simp only [bQ,Option.some.injEq] at f; subst f; exact iR hh
 | zX T xs=>obtain⟨cs,hh,_⟩:=h; simp only [bQ,Option.some.injEq] at f; subst f; exact iR hh
 | fix g o=>simp only [bQ,Option.some.injEq] at f; subst f; exact iR h
 | d_ g o=>obtain⟨c,_,hh,_⟩:=h; simp only [bQ,Option.some.injEq] at f; subst f; exact iR hh
 | map es =>
  obtain⟨g,c,p,bu,ht,hh,_⟩:=h;simp only [bQ,ht,Option.bind_some,Option.map_some,Option.some.injEq] at f;subst f; exact iR hh
 | pL K V =>
  obtain⟨g,c,p,bu,ht,hh,_⟩:=h;simp only [bQ,ht,Option.bind_some,Option.map_some,Option.some.injEq] at f;subst f; exact iR hh
 | tok k m E =>
  obtain⟨ek,ht,hh,_⟩:=h;simp only [bQ,ht,Option.bind_some] at f;cases ek with
  | none=>simp at f
  | some l =>
   obtain⟨g,cap⟩:=l;simp only [Option.map_some,Option.some.injEq] at f;subst f;obtain⟨cs,e,hh,_⟩:=hh _ _ rfl;exact iR hh
 | arr k rows =>
  obtain⟨ek,ht,_,_,_,hh⟩:=h;simp only [bQ,ht,Option.bind_some] at f;cases ek with
  | none=>simp at f
  | some l =>
   obtain⟨g,cap⟩:=l;simp only [Option.map_some,Option.some.injEq] at f;subst f;obtain⟨cs,e,hh,_⟩:=hh _ _ rfl;exact iR hh
theorem aU.lt {j:J}{w:World}{jl:List Nat}{ls:List (List D)}{h:ah}(hl:HL j w jl ls h){b:Nat}(f:aU j h jl b):b<w.heap.size:=by
 rcases f with hm|⟨id,o,hi,g⟩
 ·obtain⟨i,hi⟩:=List.getElem?_of_mem hm;obtain⟨xs,_,cs,e,hh,_⟩:=hl.2.each.get' hi;exact iR hh
 ·exact(hl.1.obj id o hi).2.Np g
theorem jE.mono {j j':J}{w w':World}(hle:Le j w j' w'){e:D×A}{m:MapEntry}(h:jE j w e m):jE j' w' e m:=⟨h.1.mono hle,h.2.mono hle⟩
theorem gJ.keep {j j':J}{w w':World}(hle:Le j w j' w'){id:Nat}{o:Obj}(hid:id<j.next) (h:gJ j w id o)
  (q:∀b,bQ j id o=some b->w'.heap[b]?=w.heap[b]?/\j'.F b=j.F b) (ht:o.tokd=true->j'.tok id=j.tok id):gJ j' w' id o/\bQ j' id o=bQ j id o:=by
 cases o with
 | cells xs =>
  obtain⟨cs,e,hh,hx,p⟩:=h;obtain⟨f,g⟩:=q _ rfl;have r:=hle.out id hid;exact⟨⟨cs,e,by rw [r,f]; exact hh,hx.imp fun _ _ h=>h.mono hle,by rw [r,g]; exact p⟩,by simp [bQ,r]⟩
 | zX T xs =>
  obtain⟨cs,hh,hx,p⟩:=h;obtain⟨f,g⟩:=q _ rfl;have r:=hle.out id hid;exact⟨⟨cs,by rw [r,f]; exact hh,hx.imp fun _ _ h=>h.mono hle,by rw [r,g]; exact p⟩,by simp [bQ,r]⟩
 | fix b o =>
  obtain⟨f,_⟩:=q b rfl;exact⟨f.trans h,rfl⟩
 | d_ b o =>
  obtain⟨c,s,hh,p⟩:=h;have l:=ht rfl;obtain⟨f,g⟩:=q b rfl;exact⟨⟨c,by rw [l]; exact s,f.trans hh,by rw [g]; exact p⟩,rfl⟩
 | map es =>
  obtain⟨b,c,z,bu,s,hh,hx,p,hB⟩:=h;have l:=ht rfl;obtain⟨f,g⟩:=q b (by simp [bQ,s]);exact⟨⟨b,c,z,bu,by rw [l]; exact s,by rw [f]; exact hh,hx.imp fun _ _ h=>h.mono hle,by rw [g]; exact p,hB⟩,by simp [bQ,l]⟩
 | pL K V =>
  obtain⟨b,c,z,bu,s,hh,hx,p⟩:=h;have l:=ht rfl;obtain⟨f,g⟩:=q b (by simp [bQ,s]);exact⟨⟨b,c,z,bu,by rw [l]; exact s,by rw [f]; exact hh,fun m hm=>let ⟨⟨xs,h1,h2⟩,v,t,u⟩:=hx m hm; ⟨⟨xs,h1,h2.mono hle⟩,v,t,u.mono hle⟩,by rw [g]; exact p⟩,by simp [bQ,l]⟩
 | tok k m E =>
  obtain⟨ek,e,hh,C⟩:=h;have l:=ht rfl;refine⟨⟨ek,by rw [l]; exact e,fun b cap y=>?_,C⟩,by simp [bQ,l]⟩;obtain⟨cs,ty,h1,h2,t,u,B⟩:=hh b cap y;obtain⟨f,g⟩:=q b (by simp [bQ,e,y]);exact⟨cs,ty,by rw [f]; exact h1,h2,by rw [g]; exact t,u,B⟩
 | arr k rows =>
  obtain⟨ek,e,g2,g3,g4,hh⟩:=h;have l:=ht rfl;refine⟨⟨ek,by rw [l]; exact e,g2,g3,g4,fun b cap y=>?_⟩,by simp [bQ,l]⟩;obtain⟨cs,ty,h1,h2,t,u,B⟩:=hh b cap y;obtain⟨f,g⟩:=q b (by simp [bQ,e,y]);exact⟨cs,ty,by rw [f]; exact h1,h2,by rw [g]; exact t,u,B.imp fun _ _ h=>h.mono hle⟩
theorem k9.keep {j j':J}{w w':World}(hle:Le j w j' w'){b:Nat}{xs:List D}(h:k9 j w b xs) (f:w'.heap[b]?=w.heap[b]?/\j'.F b=j.F b):k9 j' w' b xs:=by
 obtain⟨cs,e,hh,hx,g⟩:=h;exact⟨cs,e,by rw [f.1]; exact hh,hx.imp fun _ _ h=>h.mono hle,by rw [f.2]; exact g⟩
theorem ny {α β:Type}{R S:α->β->Prop}{l:List α}{m:List β}(hl:bI R l m) (h:∀a b,b∈m->R a b->S a b):bI S l m:=by
 induction hl with
 | nil=>exact .nil
 | cons x _ f=>exact .cons (h _ _ (by simp) x) (f fun a b g=>h a b (by simp [g]))
theorem HL.keep {j j':J}{w w':World}{jl:List Nat}{ls:List (List D)}{h:ah}(hl:HL j w jl ls h) (hle:Le j w j' w')
  (f:∀b,aU j h jl b->w'.heap[b]?=w.heap[b]?/\j'.F b=j.F b) (ht:∀id,id<j.next->(∃o,h id=some o/\o.tokd=true)->j'.tok id=j.tok id)
  (k:∀b,w'.heap.size<=b->j'.F b=0):HL j' w' jl ls h/\∀b,aU j' h jl b↔aU j h jl b:=by
 have key:∀id o,h id=some o->gJ j' w' id o/\bQ j' id o=bQ j id o:=fun id o hi =>
  (hl.1.obj id o hi).2.keep hle (hl.1.obj id o hi).1 (fun b e=>f b (.inr ⟨id,o,hi,e⟩)) (fun e=>ht id (hl.1.obj id o hi).1 ⟨o,hi,e⟩)
 have g:∀jl b,aU j' h jl b↔aU j h jl b:=by
  intro jl b;constructor
  ·rintro (hm|⟨id,o,hi,e⟩)
   ·exact .inl hm
   ·exact .inr ⟨id,o,hi,(key id o hi).2▸e⟩
  ·rintro (hm|⟨id,o,hi,e⟩)
   ·exact .inl hm
   ·exact .inr ⟨id,o,hi,(key id o hi).2.symm▸e⟩
 refine⟨⟨⟨fun id o hi=>⟨Nat.lt_of_lt_of_le (hl.1.obj id o hi).1 hle.next,(key id o hi).1⟩,fun jF o1 jG o2 b h1 h2 l m=>?_,k⟩,
  ⟨ny hl.2.each fun xs b hm h=>h.keep hle (f b (.inl hm)),hl.2.nodup,fun b hm p=>hl.2.apart b hm ((g [] b).1 p)⟩⟩,g jl⟩
 exact hl.1.inj jF o1 jG o2 b h1 h2 ((key jF o1 h1).2▸l) ((key jG o2 h2).2▸m)
theorem HL.drew {j:J}{w:World}{jl:List Nat}{ls:List (List D)}{h:ah}(hl:HL j w jl ls h):HL j w.drew jl ls h :=
 (hl.keep (@bT.toLe bP.off _ _ _ _ _ _ (@bT.drew bP.off j w (aU j h jl))) (fun _ _=>⟨rfl,rfl⟩) (fun _ _ _=>rfl) hl.1.fresh).1
theorem pM {w:World}{o:Go.Obj}{b:Nat}(h:b<w.heap.size):(w.alloc o).heap[b]?=w.heap[b]?:=by
 show (w.heap.push o)[b]?=_;rw [Array.getElem?_push,if_neg (by omega)]
def J.eO (j:J) (b n:Nat):J:={ j with F:=fun x=>if x=b then n else j.F x }
theorem Nq {w w':World}{b o:Nat}(h:w'.heap[b]?=w.heap[b]?):w'.frozen? ⟨b,o,none⟩=w.frozen? ⟨b,o,none⟩:=by simp [World.frozen?,h]
theorem Uz.same {w w':World}{b o:Nat}{v:Value}(h:w'.heap[b]?=w.heap[b]?) (hz:Uz w b o v):Uz w' b o v:=by unfold Uz; rw [Nq h]; exact hz
theorem Uz.cells {w:World}{b o:Nat}{v:Value}{c:Array Value}{e:TypeId}(h:w.heap[b]?=some (.cells c e (0,0))):Uz w b o v:=.inl (by simp [World.frozen?,h])
theorem zZ {j:J}{w w':World}(f:∀b,w.heap.size<=b->j.F b=0) (g:∀b,b<w.heap.size->0<j.F b->w'.heap[b]?=w.heap[b]?):∀b o v,o<j.F b->w.cell? ⟨b,o,none⟩=some v->Uz w b o v->Uz w' b o v:=fun b o v k _ hz =>
 hz.same (g b (by
  rcases Nat.lt_or_ge b w.heap.size with h1|h1
  ·exact h1
  ·rw [f b h1] at k; omega) (by omega))
theorem Le.alloc {j:J}{w:World}{o:Go.Obj}(f:∀b,w.heap.size<=b->j.F b=0) (n:Nat):Le j w (j.eO w.heap.size n) (w.alloc o):=by
 refine⟨Nat.le_refl _,fun _ _=>rfl,fun b=>?_,fun b o' k=>?_,fun _ _=>.inl rfl,zZ f fun b g _=>pM g⟩
 ·simp only [J.eO]
  split
  ·rename_i e; rw [f b (by omega)]; exact Nat.zero_le _
  ·exact Nat.le_refl _
 ·have g:b<w.heap.size:=by
   rcases Nat.lt_or_ge b w.heap.size with h|h
   ·exact h
   ·rw [f b h] at k; omega
  exact World.cell?_alloc_lt w _ _ g
theorem HL.data {j:J}{w:World}{jl:List Nat}{ls:List (List D)}{h:ah}(hl:HL j w jl ls h) (o:Go.Obj) (n:Nat) :
  HL (j.eO w.heap.size n) (w.alloc o) jl ls h/\bT j w (aU j h jl) (j.eO w.heap.size n) (w.alloc o) (aU (j.eO w.heap.size n) h jl):=by
 have hle:=Le.alloc (o:=o) hl.1.fresh n;have h1:∀b,b<w.heap.size->(w.alloc o).heap[b]?=w.heap[b]?/\(j.eO w.heap.size n).F b=j.F b:=fun b f =>
  ⟨pM f,by simp only [J.eO]; rw [if_neg (by omega)]⟩
 have hk:=hl.keep hle (fun b g=>h1 b (g.lt hl)) (fun _ _ _=>rfl) (fun b f=>by
  simp only [World.size_alloc] at f;simp only [J.eO]; rw [if_neg (by omega)]; exact hl.1.fresh b (by omega))
 exact⟨hk.1,{ toLe:=hle,size:=by simp,frame:=fun b f _=>h1 b f,own:=fun b _ g=>(hk.2 b).1 g,os:=rfl,tape:=rfl,output:=fJ.rfl }⟩
theorem J.z6 {j:J}{b:Nat}(h:j.F b=0):j.eO b 0=j:=by
 unfold J.eO;have:(fun x=>if x=b then 0 else j.F x)=j.F:=by
  funext x; split
  ·rename_i e; rw [e,h]
  ·rfl
 rw [this]
theorem HL.loc {j:J}{w:World}{jl:List Nat}{ls:List (List D)}{h:ah}(hl:HL j w jl ls h) (cs:List Value) (e:TypeId) (xs:List D) (hx:bI (aF j w) xs cs) :
  HL j (w.alloc (.cells cs.toArray e)) (jl++[w.heap.size]) (ls++[xs]) h/\bT j w (aU j h jl) j (w.alloc (.cells cs.toArray e)) (aU j h (jl++[w.heap.size])):=by
 have hd:=hl.data (ak:=ak) (.cells cs.toArray e) 0;rw [J.z6 (hl.1.fresh _ (Nat.le_refl _))] at hd;obtain⟨hk,k⟩:=hd;have l:∀b,b∈jl->b<w.heap.size:=fun b g=>(aU.lt hl (.inl g));refine⟨⟨hk.1,⟨hk.2.each.append (.cons ⟨cs,e,heap_alloc_new w _,hx.imp fun _ _ h=>h.mono k.toLe,hl.1.fresh _ (Nat.le_refl _)⟩ .nil), ?_,fun b g f=>?_⟩⟩, ?_⟩
 ·rw [List.nodup_append];refine⟨hk.2.nodup,by simp,fun a m b g=>?_⟩;simp at g; subst g;have:=l a m; omega
 ·rcases List.mem_append.1 g with g|g
  ·exact hk.2.apart b g f
  ·simp at g; subst g;have:w.heap.size<w.heap.size:=by
    rcases f with f|⟨id,o,hi,e⟩
    ·simp at f
    ·exact aU.lt hl (.inr ⟨id,o,hi,e⟩)
   omega
 ·refine { k with own:=fun b g f=>?_ };rcases f with f|f
  ·rcases List.mem_append.1 f with f|f
   ·exact .inl f
   ·simp at f; omega
  ·exact .inr f
def J.obj (j:J) (b:Nat):J:={ j with out:=fun x=>if x=j.next then b else j.out x,next:=j.next+1 }
theorem ah.cM (h:ah) (i:Nat) (o:Option Obj):h.set i o i=o:=by simp [ah.set]
theorem ah.cD (h:ah){i n:Nat}(o:Option Obj) (hn:n≠i):h.set i o n=h n:=by simp [ah.set,hn]
theorem ah.set_set (h:ah) (i:Nat) (o o':Option Obj):(h.set i o).set i o'=h.set i o':=by
 funext n; simp only [ah.set]; split<;>rfl
theorem ah.tR (h:ah) (i:Nat) (o:Option Obj) (hi:h i=o):h.set i o=h:=by
 funext n; simp only [ah.set]; split
 ·rename_i e; rw [e,hi]
 ·rfl
theorem fI.pN {j:J}{w:World}{h:ah}(hr:fI j w h){id:Nat}(hi:j.next<=id):h id=none:=by
 cases e:h id with
 | none=>rfl
 | some o=>have:=(hr.obj id o e).1; omega
theorem HL.obj {j:J}{w:World}{jl:List Nat}{ls:List (List D)}{h:ah}(hl:HL j w jl ls h) (go:Go.Obj) (o:Obj) (l:o.tokd=false)
  (t:gJ (j.obj w.heap.size) (w.alloc go) j.next o) :
  HL (j.obj w.heap.size) (w.alloc go) jl ls (h.set j.next (some o)) /\
   bT j w (aU j h jl) (j.obj w.heap.size) (w.alloc go) (aU (j.obj w.heap.size) (h.set j.next (some o)) jl):=by
 have hd:=hl.data (ak:=ak) go 0;rw [J.z6 (hl.1.fresh _ (Nat.le_refl _))] at hd;obtain⟨hk,s⟩:=hd;have hle:Le j (w.alloc go) (j.obj w.heap.size) (w.alloc go) :=
  ⟨by simp [J.obj],fun id hi=>by simp only [J.obj]; rw [if_neg (by omega)],fun _=>Nat.le_refl _,fun _ _ _=>rfl,fun _ _=>.inl rfl,fun _ _ _ _ _ h=>h⟩
 have f:=hk.keep hle (fun _ _=>⟨rfl,rfl⟩) (fun _ _ _=>rfl) hk.1.fresh;have hblk:bQ (j.obj w.heap.size) j.next o=some w.heap.size:=by
  cases o with
  | tok k m E=>simp [Obj.tokd] at l
  | arr k rows=>simp [Obj.tokd] at l
  | cells xs=>simp [bQ,J.obj]
  | zX T xs=>simp [bQ,J.obj]
  | map es=>simp [Obj.tokd] at l
  | pL K V=>simp [Obj.tokd] at l
  | d_ b o=>simp [Obj.tokd] at l
  | fix b o=>simp [Obj.tokd] at l
 have hold:∀id o',h id=some o'->id≠j.next:=fun id o' hi e=>by
  rw [e,hl.1.pN (Nat.le_refl _)] at hi; simp at hi
 have aJ:∀id o' b,h id=some o'->bQ (j.obj w.heap.size) id o'=some b->b<w.heap.size:=fun id o' b hi e =>
  aU.lt hl ((f.2 b).1 (.inr ⟨id,o',hi,e⟩))
 refine⟨⟨⟨fun id o' hi=>?_,fun jF o1 jG o2 b h1 h2 q r=>?_,hk.1.fresh⟩,⟨f.1.2.each,f.1.2.nodup,fun b p g=>?_⟩⟩, ?_⟩
 ·by_cases e:id=j.next
  ·subst e; rw [ah.cM] at hi; simp only [Option.some.injEq] at hi; subst hi;exact⟨by simp [J.obj],t⟩
  ·rw [ah.cD h _ e] at hi; exact f.1.1.obj id o' hi
 ·by_cases c1:jF=j.next<;>by_cases c2:jG=j.next
  ·omega
  ·subst c1; rw [ah.cM] at h1; simp only [Option.some.injEq] at h1; subst h1;rw [ah.cD h _ c2] at h2;rw [hblk] at q; simp only [Option.some.injEq] at q;have:=aJ jG o2 b h2 r; omega
  ·subst c2; rw [ah.cM] at h2; simp only [Option.some.injEq] at h2; subst h2;rw [ah.cD h _ c1] at h1;rw [hblk] at r; simp only [Option.some.injEq] at r;have:=aJ jF o1 b h1 q; omega
  ·rw [ah.cD h _ c1] at h1; rw [ah.cD h _ c2] at h2;exact f.1.1.inj jF o1 jG o2 b h1 h2 q r
 ·rcases g with g|⟨id,o',hi,e⟩
  ·simp at g
  ·by_cases c:id=j.next
   ·subst c; rw [ah.cM] at hi; simp only [Option.some.injEq] at hi; subst hi;rw [hblk] at e; simp only [Option.some.injEq] at e;have:=aU.lt hl (.inl p); omega
   ·rw [ah.cD h _ c] at hi;exact f.1.2.apart b p (.inr ⟨id,o',hi,e⟩)
 ·refine { toLe:=s.toLe.trans hle,size:=by simp,frame:=fun b p hn=>s.frame b p hn,own:=fun b p g=>?_,os:=rfl,tape:=rfl,output:=fJ.rfl };rcases g with g|⟨id,o',hi,e⟩
  ·exact .inl g
  ·by_cases c:id=j.next
   ·subst c; rw [ah.cM] at hi; simp only [Option.some.injEq] at hi; subst hi;rw [hblk] at e; simp only [Option.some.injEq] at e; omega
   ·rw [ah.cD h _ c] at hi;exact(f.2 b).1 (.inr ⟨id,o',hi,e⟩)
end Go.Ab
/-
 Stores: into a local,into an object; slices that grow.
-/
namespace Go.Ab
open Go Go.RowKit
variable {ak:bP}
structure fW [bP] (w w':World) (b:Nat) (o:Go.Obj):Prop where
 size:w'.heap.size=w.heap.size
 here:w'.heap[b]?=some o
 other:∀x,x≠b->w'.heap[x]?=w.heap[x]?
 os:w'.os=w.os
 tape:w'.tape=w.tape
 output:fJ w w'
theorem tT {w w':World}{b o:Nat}(h:w'.heap[b]?=w.heap[b]?):w'.cell? ⟨b,o,none⟩=w.cell? ⟨b,o,none⟩:=by simp [World.cell?,h]
theorem fW.le {j:J}{w w':World}{b:Nat}{o:Go.Obj}(hu:fW w w' b o) (f:j.F b=0):Le j w j w' :=
 ⟨Nat.le_refl _,fun _ _=>rfl,fun _=>Nat.le_refl _,fun x i hi=>tT (hu.other x fun e=>by rw [e,f] at hi; omega),fun _ _=>.inl rfl,fun x i v hi _ hz=>hz.same (hu.other x fun e=>by rw [e,f] at hi; omega)⟩
theorem Nr {α β:Type}{R S:α->β->Prop}{l:List α}{m:List β}(hl:bI R l m) (p:m.Nodup){i:Nat}{y:β}(j:m[i]?=some y) (x:α) (hx:S x y)
  (h:∀a b,b∈m->b≠y->R a b->S a b):bI S (l.set i x) m:=by
 refine bI.k7 (by simp [hl.length]) fun n a b f g=>?_;by_cases e:i=n
 ·subst e;rw [j] at g; simp only [Option.some.injEq] at g; subst g;rw [List.getElem?_set] at f;simp only [if_true] at f
  split at f
  ·simp only [Option.some.injEq] at f; subst f; exact hx
  ·simp at f
 ·rw [List.getElem?_set,if_neg e] at f;obtain⟨r,k,hr⟩:=hl.get f;rw [g] at k; simp only [Option.some.injEq] at k; subst k;refine h _ _ (List.mem_of_getElem? g) (fun q=>?_) hr;subst q;exact e ((List.getElem?_inj (List.getElem?_eq_some_iff.1 j).1 p).1 (j.trans g.symm))
theorem HL.Ns {j:J}{w w':World}{jl:List Nat}{ls:List (List D)}{h:ah}(hl:HL j w jl ls h){i b:Nat}(g:jl[i]?=some b) (k:j.F b=0)
  {cs:List Value}{e:TypeId}(hu:fW w w' b (.cells cs.toArray e (0,0))){xs:List D}(hx:bI (aF j w) xs cs) :
  HL j w' jl (ls.set i xs) h/\bT j w (aU j h jl) j w' (aU j h jl):=by
 have hle:=hu.le (j:=j) k;have l:b∈jl:=List.mem_of_getElem? g;have m:∀x,aU j h [] x->x≠b:=fun x f e=>hl.2.apart b l (e▸f);have hr:fI j w' h/\∀x,aU j h [] x↔aU j h [] x:=by
  have h0:HL j w [] [] h:=⟨hl.1,⟨.nil,by simp,by simp⟩⟩;have:=h0.keep hle (fun x f=>⟨hu.other x (m x f),rfl⟩) (fun _ _ _=>rfl) (fun x hx=>hl.1.fresh x (by rw [hu.size] at hx; exact hx));exact⟨this.1.1,fun _=>Iff.rfl⟩
 refine⟨⟨hr.1,⟨Nr hl.2.each hl.2.nodup g xs ⟨cs,e,hu.here,hx.imp fun _ _ h=>h.mono hle,k⟩ fun a y _ p h=>h.keep hle ⟨hu.other y p,rfl⟩,hl.2.nodup,hl.2.apart⟩⟩,
  { toLe:=hle,size:=by rw [hu.size]; exact Nat.le_refl _,frame:=fun x _ hn=>⟨hu.other x fun e=>hn (e▸.inl l),rfl⟩,own:=fun _ _ h=>h,os:=hu.os,tape:=hu.tape,output:=hu.output }⟩
theorem HL.setObj {j:J}{w w':World}{jl:List Nat}{ls:List (List D)}{h:ah}(hl:HL j w jl ls h){id:Nat}{o o':Obj}{go:Go.Obj}{B:Nat}(hi:h id=some o)
  (b:bQ j id o=some B) (g:bQ j id o'=some B) (s:j.F B=0)
  (hu:fW w w' B go) (k:gJ j w' id o') :
  HL j w' jl ls (h.set id (some o'))/\bT j w (aU j h jl) j w' (aU j (h.set id (some o')) jl):=by
 have hle:=hu.le (j:=j) s;have l:∀jl x,aU j (h.set id (some o')) jl x↔aU j h jl x:=by
  intro jl x;constructor
  ·rintro (hm|⟨n,q,hn,e⟩)
   ·exact .inl hm
   ·by_cases c:n=id
    ·subst c; rw [ah.cM] at hn; simp only [Option.some.injEq] at hn; subst hn;rw [g] at e; exact .inr ⟨_,o,hi,by rw [b]; exact e⟩
    ·rw [ah.cD h _ c] at hn; exact .inr ⟨n,q,hn,e⟩
  ·rintro (hm|⟨n,q,hn,e⟩)
   ·exact .inl hm
   ·by_cases c:n=id
    ·subst c; rw [hi] at hn; simp only [Option.some.injEq] at hn; subst hn;rw [b] at e; exact .inr ⟨_,o',ah.cM _ _ _,by rw [g]; exact e⟩
    ·exact .inr ⟨n,q,by rw [ah.cD h _ c]; exact hn,e⟩
 have t:∀n q x,h n=some q->n≠id->bQ j n q=some x->x≠B:=fun n q x hn u e c =>
  u (hl.1.inj n q id o x hn hi e (c▸b))
 have v:∀x,x∈jl->x≠B:=fun x hx c=>hl.2.apart x hx (.inr ⟨id,o,hi,c▸b⟩);refine⟨⟨⟨fun n q hn=>?_,fun m y p z x h1 h2 C E=>?_,fun x hx=>hl.1.fresh x (by rw [hu.size] at hx; exact hx)⟩,
  ⟨ny hl.2.each fun xs x hx h=>h.keep hle ⟨hu.other x (v x hx),rfl⟩,hl.2.nodup,fun x hx k=>hl.2.apart x hx ((l [] x).1 k)⟩⟩, ?_⟩
 ·by_cases c:n=id
  ·subst c; rw [ah.cM] at hn; simp only [Option.some.injEq] at hn; subst hn;exact⟨(hl.1.obj _ o hi).1,k⟩
  ·rw [ah.cD h _ c] at hn;have:=hl.1.obj n q hn;exact⟨this.1,(this.2.keep hle this.1 (fun x e=>⟨hu.other x (t n q x hn c e),rfl⟩) (fun _=>rfl)).1⟩
 ·have f:∀n q,(h.set id (some o')) n=some q->∃r,h n=some r/\∀x,bQ j n q=some x->bQ j n r=some x:=by
   intro n q hn;by_cases c:n=id
   ·subst c; rw [ah.cM] at hn; simp only [Option.some.injEq] at hn; subst hn;exact⟨o,hi,fun x e=>by rw [g] at e; rw [b]; exact e⟩
   ·rw [ah.cD h _ c] at hn; exact⟨q,hn,fun _ e=>e⟩
  obtain⟨G,g1,f1⟩:=f m y h1;obtain⟨H,g2,f2⟩:=f p z h2;exact hl.1.inj m G p H x g1 g2 (f1 x C) (f2 x E)
 ·exact { toLe:=hle,size:=(by rw [hu.size]; exact Nat.le_refl _),frame:=(fun x _ hn=>⟨hu.other x (fun c=>hn (.inr ⟨id,o,hi,c▸b⟩)),rfl⟩),own:=(fun x _ h=>(l jl x).1 h),os:=hu.os,tape:=hu.tape,output:=hu.output }
theorem HL.forget {j:J}{w:World}{jl:List Nat}{ls:List (List D)}{h h':ah}(hl:HL j w jl ls h) (b:∀id o,h' id=some o->h id=some o) :
  HL j w jl ls h'/\bT j w (aU j h jl) j w (aU j h' jl):=by
 have f:∀jl x,aU j h' jl x->aU j h jl x:=by
  rintro jl x (hm|⟨n,q,hn,e⟩)
  ·exact .inl hm
  ·exact .inr ⟨n,q,b n q hn,e⟩
 exact⟨⟨⟨fun id o hi=>hl.1.obj id o (b id o hi),fun g k l m x h1 h2 p r=>hl.1.inj g k l m x (b _ _ h1) (b _ _ h2) p r,hl.1.fresh⟩,
  ⟨hl.2.each,hl.2.nodup,fun x hx s=>hl.2.apart x hx (f [] x s)⟩⟩,(bT.refl j w _).drop (f jl)⟩
theorem HL.trim {j:J}{w:World}{jl:List Nat}{ls:List (List D)}{h:ah}(hl:HL j w jl ls h) (n:Nat) :
  HL j w (jl.take n) (ls.take n) h/\bT j w (aU j h jl) j w (aU j h (jl.take n)) :=
 ⟨⟨hl.1,⟨hl.2.each.take n,hl.2.nodup.sublist (List.take_sublist n jl),fun b f=>hl.2.apart b (List.mem_of_mem_take f)⟩⟩,
  (bT.refl j w _).drop fun _ g=>g.elim (fun x=>.inl (List.mem_of_mem_take x)) .inr⟩
def J.eM (j:J):J:={ j with tok:=fun x=>if x=j.next then some ⟨none,0⟩ else j.tok x,next:=j.next+1 }
theorem HL.eM {j:J}{w:World}{jl:List Nat}{ls:List (List D)}{h:ah}(hl:HL j w jl ls h) (k:Nat) (E:Option TypeId:=none) :
  HL j.eM w jl ls (h.set j.next (some (.tok k 0 E)))/\bT j w (aU j h jl) j.eM w (aU j.eM (h.set j.next (some (.tok k 0 E))) jl):=by
 have hle:Le j w j.eM w:=⟨by simp [J.eM],fun _ _=>rfl,fun _=>Nat.le_refl _,fun _ _ _=>rfl,fun t ht=>.inl (by simp only [J.eM]; rw [if_neg (by omega)]),fun _ _ _ _ _ h=>h⟩;have hk:=hl.keep hle (fun _ _=>⟨rfl,rfl⟩) (fun id hid _=>by simp only [J.eM]; rw [if_neg (by omega)]) hl.1.fresh;have f:∀b,bQ j.eM j.next (.tok k 0 E)≠some b:=by intro b; simp [bQ,J.eM]
 have l:∀jl x,aU j.eM (h.set j.next (some (.tok k 0 E))) jl x->aU j.eM h jl x:=by
  rintro jl x (hm|⟨n,q,hn,e⟩)
  ·exact .inl hm
  ·by_cases c:n=j.next
   ·subst c; rw [ah.cM] at hn; simp only [Option.some.injEq] at hn; subst hn;exact absurd e (f x)
   ·rw [ah.cD h _ c] at hn; exact .inr ⟨n,q,hn,e⟩
 refine⟨⟨⟨fun id o hi=>?_,fun m u p v x h1 h2 r s=>?_,hl.1.fresh⟩,⟨hk.1.2.each,hk.1.2.nodup,fun x hx g=>hk.1.2.apart x hx (l [] x g)⟩⟩,
  { (bT.refl j w (aU j h jl)) with toLe:=hle,frame:=fun _ _ _=>⟨rfl,rfl⟩,own:=fun b _ g=>(hk.2 b).1 (l jl b g) }⟩
 ·by_cases c:id=j.next
  ·subst c; rw [ah.cM] at hi; simp only [Option.some.injEq] at hi; subst hi;exact⟨by simp [J.eM],none,by simp [J.eM],(by intro _ _ h; cases h),fun _ _=>rfl⟩
  ·rw [ah.cD h _ c] at hi; exact hk.1.1.obj id o hi
 ·by_cases c1:m=j.next
  ·subst c1; rw [ah.cM] at h1; simp only [Option.some.injEq] at h1; subst h1;exact absurd r (f x)
  ·by_cases c2:p=j.next
   ·subst c2; rw [ah.cM] at h2; simp only [Option.some.injEq] at h2; subst h2;exact absurd s (f x)
   ·rw [ah.cD h _ c1] at h1; rw [ah.cD h _ c2] at h2;exact hk.1.1.inj m u p v x h1 h2 r s
def J.cH (j:J) (t:Nat) (k:Tk) (b n:Nat):J:={ j with tok:=fun x=>if x=t then some k else j.tok x,F:=fun x=>if x=b then n else j.F x }
def J.hG (j:J) (m:Nat):J:={ j with tok:=fun x=>if x=j.next then some ⟨none,m⟩ else j.tok x,next:=j.next+1 }
theorem HL.hG {j:J}{w:World}{jl:List Nat}{ls:List (List D)}{h:ah}(hl:HL j w jl ls h) (k m:Nat) :
  HL (j.hG m) w jl ls (h.set j.next (some (.tok k m)))/\bT j w (aU j h jl) (j.hG m) w (aU (j.hG m) (h.set j.next (some (.tok k m))) jl):=by
 have hle:Le j w (j.hG m) w:=⟨by simp [J.hG],fun _ _=>rfl,fun _=>Nat.le_refl _,fun _ _ _=>rfl,fun t ht=>.inl (by simp only [J.hG]; rw [if_neg (by omega)]),fun _ _ _ _ _ h=>h⟩;have hk:=hl.keep hle (fun _ _=>⟨rfl,rfl⟩) (fun id hid _=>by simp only [J.hG]; rw [if_neg (by omega)]) hl.1.fresh;have f:∀b,bQ (j.hG m) j.next (.tok k m)≠some b:=by intro b; simp [bQ,J.hG]
 have l:∀jl x,aU (j.hG m) (h.set j.next (some (.tok k m))) jl x->aU (j.hG m) h jl x:=by
  rintro jl x (hm|⟨n,q,hn,e⟩)
  ·exact .inl hm
  ·by_cases c:n=j.next
   ·subst c; rw [ah.cM] at hn; simp only [Option.some.injEq] at hn; subst hn;exact absurd e (f x)
   ·rw [ah.cD h _ c] at hn; exact .inr ⟨n,q,hn,e⟩
 refine⟨⟨⟨fun id o hi=>?_,fun p v r y x h1 h2 s u=>?_,hl.1.fresh⟩,⟨hk.1.2.each,hk.1.2.nodup,fun x hx g=>hk.1.2.apart x hx (l [] x g)⟩⟩,
  { (bT.refl j w (aU j h jl)) with toLe:=hle,frame:=fun _ _ _=>⟨rfl,rfl⟩,own:=fun b _ g=>(hk.2 b).1 (l jl b g) }⟩
 ·by_cases c:id=j.next
  ·subst c; rw [ah.cM] at hi; simp only [Option.some.injEq] at hi; subst hi;exact⟨by simp [J.hG],none,by simp [J.hG],(by intro _ _ h; cases h),fun h=>by cases h⟩
  ·rw [ah.cD h _ c] at hi; exact hk.1.1.obj id o hi
 ·by_cases c1:p=j.next
  ·subst c1; rw [ah.cM] at h1; simp only [Option.some.injEq] at h1; subst h1;exact absurd s (f x)
  ·by_cases c2:r=j.next
   ·subst c2; rw [ah.cM] at h2; simp only [Option.some.injEq] at h2; subst h2;exact absurd u (f x)
   ·rw [ah.cD h _ c1] at h1; rw [ah.cD h _ c2] at h2;exact hk.1.1.inj p v r y x h1 h2 s u
theorem HL.grow {j:J}{w w':World}{jl:List Nat}{ls:List (List D)}{h:ah}(hl:HL j w jl ls h){t k m m':Nat}{E:Option TypeId}(ht:h t=some (.tok k m E)) (hm:m<m')
  {b cap:Nat}{cs:Array Value}{e:TypeId}(I:w'.heap[b]?=some (.cells cs e (0,0))) (P:cs.size=cap*k) (Q:m'<=cap)
  (r:∀x,x≠b->x<w.heap.size->w'.heap[x]?=w.heap[x]?) (R:w.heap.size<=w'.heap.size) (af:w'.heap.size<=max w.heap.size (b+1))
  (l:w.heap.size<=b\/(bQ j t (.tok k m E)=some b/\∀o,o<j.F b->w'.cell? ⟨b,o,none⟩=w.cell? ⟨b,o,none⟩))
  (S:w'.os=w.os) (U:w'.tape=w.tape) (W:fJ w w') (X:∀T,E=some T->e=T:=by intro T h; cases h) :
  HL (j.cH t ⟨some (b,cap),m'⟩ b (m'*k)) w' jl ls (h.set t (some (.tok k m' E))) /\
   bT j w (aU j h jl) (j.cH t ⟨some (b,cap),m'⟩ b (m'*k)) w' (aU (j.cH t ⟨some (b,cap),m'⟩ b (m'*k)) (h.set t (some (.tok k m' E))) jl):=by
 obtain⟨Y,ek,M,hblk,_⟩:=hl.1.obj t _ ht;have Z:j.F b<=m'*k:=by
  rcases l with hc|⟨hc,_⟩
  ·rw [hl.1.fresh b hc]; exact Nat.zero_le _
  ·simp only [bQ,M,Option.bind_some] at hc;cases ek with
   | none=>simp at hc
   | some aa =>
    obtain⟨ab,ad⟩:=aa;simp only [Option.map_some,Option.some.injEq] at hc;subst hc;obtain⟨_,_,_,_,ae,_⟩:=hblk _ _ rfl;rw [ae]; exact Nat.mul_le_mul_right _ (Nat.le_of_lt hm)
 have hle:Le j w (j.cH t ⟨some (b,cap),m'⟩ b (m'*k)) w':=by
  refine⟨Nat.le_refl _,fun _ _=>rfl,fun x=>?_,fun x o f=>?_,fun x hx=>?_,fun x o v f _ hz=>by
   by_cases c:x=b
   ·subst c; exact .cells I
   ·refine hz.same (r x c ?_);rcases Nat.lt_or_ge x w.heap.size with h1|h1
    ·exact h1
    ·rw [hl.1.fresh x h1] at f; omega⟩
  ·simp only [J.cH]; split
   ·rename_i c; rw [c]; exact Z
   ·exact Nat.le_refl _
  ·by_cases c:x=b
   ·subst c;rcases l with hc|⟨_,hc⟩
    ·rw [hl.1.fresh x hc] at f; omega
    ·exact hc o f
   ·refine tT (r x c ?_);rcases Nat.lt_or_ge x w.heap.size with h1|h1
    ·exact h1
    ·rw [hl.1.fresh x h1] at f; omega
  ·by_cases c:x=t
   ·subst c; exact .inr ⟨_,⟨some (b,cap),m'⟩,M,by simp [J.cH],hm⟩
   ·exact .inl (by simp [J.cH,c])
 -- the others' blocks are not b
 have B:∀n q x,h n=some q->n≠t->bQ j n q=some x->x≠b:=fun n q x hn g hx c=>by
  subst c;rcases l with hc|⟨hc,_⟩
  ·have:=aU.lt hl (.inr ⟨n,q,hn,hx⟩); omega
  ·exact g (hl.1.inj n q t _ x hn ht hx hc)
 have K:∀x,x∈jl->x≠b:=fun x hx c=>by
  subst c;rcases l with hc|⟨hc,_⟩
  ·have:=aU.lt hl (.inl hx); omega
  ·exact hl.2.apart x hx (.inr ⟨t,_,ht,hc⟩)
 have C:∀x,x≠b->(j.cH t ⟨some (b,cap),m'⟩ b (m'*k)).F x=j.F x:=fun x hx=>by simp [J.cH,hx]
 have p:∀n q,h n=some q->n≠t->gJ (j.cH t ⟨some (b,cap),m'⟩ b (m'*k)) w' n q/\bQ (j.cH t ⟨some (b,cap),m'⟩ b (m'*k)) n q=bQ j n q:=fun n q hn g =>
  (hl.1.obj n q hn).2.keep hle (hl.1.obj n q hn).1 (fun x hx=>⟨r x (B n q x hn g hx) (aU.lt hl (.inr ⟨n,q,hn,hx⟩)),C x (B n q x hn g hx)⟩)
   (fun _=>by simp [J.cH,g])
 have L:bQ (j.cH t ⟨some (b,cap),m'⟩ b (m'*k)) t (.tok k m' E)=some b:=by simp [bQ,J.cH]
 have N:∀jl x,aU (j.cH t ⟨some (b,cap),m'⟩ b (m'*k)) (h.set t (some (.tok k m' E))) jl x->x=b\/aU j h jl x:=by
  rintro jl x (hx|⟨n,q,hn,hx⟩)
  ·exact .inr (.inl hx)
  ·by_cases c:n=t
   ·subst c; rw [ah.cM] at hn; simp only [Option.some.injEq] at hn; subst hn;rw [L] at hx; simp only [Option.some.injEq] at hx; exact .inl hx.symm
   ·rw [ah.cD h _ c] at hn;exact .inr (.inr ⟨n,q,hn,(p n q hn c).2▸hx⟩)
 refine⟨⟨⟨fun n q hn=>?_,fun s G u H x h1 h2 y z=>?_,fun x hx=>?_⟩,
  ⟨ny hl.2.each fun xs x hx h=>h.keep hle ⟨r x (K x hx) (aU.lt hl (.inl hx)),C x (K x hx)⟩,hl.2.nodup,fun x hx f=>?_⟩⟩, ?_⟩
 ·by_cases c:n=t
  ·subst c; rw [ah.cM] at hn; simp only [Option.some.injEq] at hn; subst hn;refine⟨Y,some (b,cap),by simp [J.cH],fun ab ad O=>?_,fun _ h=>by cases h⟩;simp only [Option.some.injEq,Prod.mk.injEq] at O;obtain⟨rfl,rfl⟩:=O;exact⟨cs,e,I,P,by simp [J.cH],Q,X⟩
  ·rw [ah.cD h _ c] at hn;exact⟨(hl.1.obj n q hn).1,(p n q hn c).1⟩
 ·by_cases c1:s=t<;>by_cases c2:u=t
  ·omega
  ·subst c1; rw [ah.cM] at h1; simp only [Option.some.injEq] at h1; subst h1;rw [ah.cD h _ c2] at h2;rw [L] at y; simp only [Option.some.injEq] at y;exact absurd y.symm (B u H x h2 c2 ((p u H h2 c2).2▸z))
  ·subst c2; rw [ah.cM] at h2; simp only [Option.some.injEq] at h2; subst h2;rw [ah.cD h _ c1] at h1;rw [L] at z; simp only [Option.some.injEq] at z;exact absurd z.symm (B s G x h1 c1 ((p s G h1 c1).2▸y))
  ·rw [ah.cD h _ c1] at h1; rw [ah.cD h _ c2] at h2;exact hl.1.inj s G u H x h1 h2 ((p s G h1 c1).2▸y) ((p u H h2 c2).2▸z)
 ·have ai:=iR I;rw [C x (by omega)];exact hl.1.fresh x (by omega)
 ·rcases N [] x f with c|c
  ·exact K x hx c
  ·exact hl.2.apart x hx c
 ·refine { toLe:=hle,size:=R,frame:=fun x hx hn=>?_,own:=fun x hx f=>?_,os:=S,tape:=U,output:=W }
  ·have g:x≠b:=fun c=>by
    subst c;rcases l with hc|⟨hc,_⟩
    ·omega
    ·exact hn (.inr ⟨t,_,ht,hc⟩)
   exact⟨r x g hx,C x g⟩
  ·rcases N jl x f with c|c
   ·subst c;rcases l with hc|⟨hc,_⟩
    ·omega
    ·exact .inr ⟨t,_,ht,hc⟩
   ·exact c
theorem HL.Hf {j:J}{w:World}{jl:List Nat}{ls:List (List D)}{h:ah}(hl:HL j w jl ls h){t k:Nat}(ht:h t=some (.tok k 0)) :
  HL (j.cH t ⟨some (w.heap.size,0),1⟩ w.heap.size 0) (w.alloc (.map #[] 0)) jl ls (h.set t (some (.map []))) /\
   bT j w (aU j h jl) (j.cH t ⟨some (w.heap.size,0),1⟩ w.heap.size 0) (w.alloc (.map #[] 0)) (aU (j.cH t ⟨some (w.heap.size,0),1⟩ w.heap.size 0) (h.set t (some (.map []))) jl) /\
   bD (j.cH t ⟨some (w.heap.size,0),1⟩ w.heap.size 0) (w.alloc (.map #[] 0)) jl (.a (.d (.map t))) (.map (some w.heap.size)):=by
 obtain⟨G,ek,M,hblk,_⟩:=hl.1.obj t _ ht;have H:j.F w.heap.size=0:=hl.1.fresh _ (Nat.le_refl _);have g:∀x,x<w.heap.size->(w.alloc (.map #[] 0)).heap[x]?=w.heap[x]?:=fun x hx=>pM hx;generalize l:j.cH t ⟨some (w.heap.size,0),1⟩ w.heap.size 0=j';have b:∀x,j'.F x=j.F x:=fun x=>by
  subst l; simp only [J.cH]; split
  ·rename_i c; rw [c,H]
  ·rfl
 have B:j'.next=j.next:=by subst l; rfl
 have s:j'.tok t=some ⟨some (w.heap.size,0),1⟩:=by subst l; simp [J.cH]
 have I:∀x,x≠t->j'.tok x=j.tok x:=fun x hx=>by subst l; simp [J.cH,hx]
 have hle:Le j w j' (w.alloc (.map #[] 0)):=by
  refine⟨by rw [B]; exact Nat.le_refl _,fun _ _=>by subst l; rfl,fun x=>by rw [b]; exact Nat.le_refl _,fun x o m=>?_,fun x hx=>?_,zZ hl.1.fresh fun x hx _=>g x hx⟩
  ·refine tT (g x ?_);rcases Nat.lt_or_ge x w.heap.size with h1|h1
   ·exact h1
   ·rw [hl.1.fresh x h1] at m; omega
  ·by_cases c:x=t
   ·subst c; exact .inr ⟨_,_,M,s,Nat.zero_lt_one⟩
   ·exact .inl (I x c)
 have C:∀n q x,h n=some q->bQ j n q=some x->x<w.heap.size:=fun n q x hn hx=>aU.lt hl (.inr ⟨n,q,hn,hx⟩);have K:∀x,x∈jl->x<w.heap.size:=fun x hx=>aU.lt hl (.inl hx);have f:∀n q,h n=some q->n≠t->gJ j' (w.alloc (.map #[] 0)) n q/\bQ j' n q=bQ j n q:=fun n q hn N =>
  (hl.1.obj n q hn).2.keep hle (hl.1.obj n q hn).1 (fun x hx=>⟨g x (C n q x hn hx),b x⟩) (fun _=>I n N)
 have E:bQ j' t (.map [])=some w.heap.size:=by simp [bQ,s]
 have L:∀jl x,aU j' (h.set t (some (.map []))) jl x->x=w.heap.size\/aU j h jl x:=by
  rintro jl x (hx|⟨n,q,hn,hx⟩)
  ·exact .inr (.inl hx)
  ·by_cases c:n=t
   ·subst c; rw [ah.cM] at hn; simp only [Option.some.injEq] at hn; subst hn;rw [E] at hx; simp only [Option.some.injEq] at hx; exact .inl hx.symm
   ·rw [ah.cD h _ c] at hn;exact .inr (.inr ⟨n,q,hn,(f n q hn c).2▸hx⟩)
 refine⟨⟨⟨fun n q hn=>?_,fun p u r v x h1 h2 y z=>?_,fun x hx=>?_⟩,
  ⟨ny hl.2.each fun xs x hx h=>h.keep hle ⟨g x (K x hx),b x⟩,hl.2.nodup,fun x hx m=>?_⟩⟩, ?_, ?_⟩
 ·rw [B];by_cases c:n=t
  ·subst c; rw [ah.cM] at hn; simp only [Option.some.injEq] at hn; subst hn;exact⟨G,w.heap.size,0,[],0,s,heap_alloc_new w _,.nil,by rw [b]; exact H,List.nodup_nil,(fun _ h=>by cases h),List.nodup_nil⟩
  ·rw [ah.cD h _ c] at hn;exact⟨(hl.1.obj n q hn).1,(f n q hn c).1⟩
 ·by_cases c1:p=t<;>by_cases c2:r=t
  ·omega
  ·subst c1; rw [ah.cM] at h1; simp only [Option.some.injEq] at h1; subst h1;rw [ah.cD h _ c2] at h2;rw [E] at y; simp only [Option.some.injEq] at y;have:=C r v x h2 ((f r v h2 c2).2▸z); omega
  ·subst c2; rw [ah.cM] at h2; simp only [Option.some.injEq] at h2; subst h2;rw [ah.cD h _ c1] at h1;rw [E] at z; simp only [Option.some.injEq] at z;have:=C p u x h1 ((f p u h1 c1).2▸y); omega
  ·rw [ah.cD h _ c1] at h1; rw [ah.cD h _ c2] at h2;exact hl.1.inj p u r v x h1 h2 ((f p u h1 c1).2▸y) ((f r v h2 c2).2▸z)
 ·rw [b];simp only [World.size_alloc] at hx;exact hl.1.fresh x (by omega)
 ·rcases L [] x m with c|c
  ·have:=K x hx; omega
  ·exact hl.2.apart x hx c
 ·refine { toLe:=hle,size:=(by simp),frame:=fun x hx hn=>⟨g x hx,b x⟩,own:=fun x hx m=>?_,os:=rfl,tape:=rfl,output:=fJ.rfl };rcases L jl x m with c|c
  ·omega
  ·exact c
 ·show aF j' (w.alloc (.map #[] 0)) (.map t) (.map (some w.heap.size));refine .map t w.heap.size (by rw [B]; exact G) fun tk hk=>?_;rw [s] at hk;obtain rfl:=Option.some.inj hk;exact⟨Nat.le_refl _,fun _=>⟨0,rfl⟩⟩
end Go.Ab
/-
 The abstract state of a running function,one operation,a region in the order of its text.
-/
namespace Go.Ab
open Go Go.RowKit
variable {ak:bP}
class ez where
 ds:List Deferred
instance (priority:=low) ez.nothing:ez:=⟨[]⟩
variable {fE:ez}
abbrev Ts:=List (Nat×V)
def get:Ts->Nat->V
 | [],_=>.any
 | (k,v)::r,n=>bif Nat.beq k n then v else get r n
theorem gp (k:Nat) (v:V) (r:Ts):get ((k,v)::r) k=v:=by simp [get]
theorem ia {k n:Nat}(v:V) (r:Ts) (h:k≠n):get ((k,v)::r) n=get r n:=by
 have:Nat.beq k n=false:=Bool.eq_false_iff.2 fun e=>h (Nat.eq_of_beq_eq_true e);simp [get,this]
structure St where
 n:Nat
 ts:Ts
 ls:List (List D)
 h:ah
def tU:Value->Option D
 | .bool b=>some (.bool b)
 | .int k n=>some (.int k n)
 | .string s=>bif Nat.ble s.data.toList.length fD then some (.str s.data.toList) else none
 | .slice none 0 0=>some (.slice 0 none true [])
 | .pointer none=>some .ew
 | .map none=>some .k6
 | .nilFunc=>some .nilFunc
 | .nilIface=>some .nilIface
 | _=>none
def Hg (v:Value):V :=
 match tU v with
 | some x=>.a (.d x)
 | none=>.any
def ev (ts:Ts):Operand->V
 | .tmp t=>get ts t
 | .const v=>Hg v
 | .global _=>.any
 | .func f=>.a (.d (.func f []))
theorem Da (j:J) (w:World) (v:Value) (x:D) (h:tU v=some x):aF j w x v:=by
 unfold tU at h
 split at h<;>simp at h
 ·subst h; exact .bool _
 ·subst h; exact .int _ _
 ·rename_i s
  cases c:Nat.ble s.size fD with
  | false=>rw [c] at h; simp at h
  | true =>
   rw [c] at h; simp at h;subst h;have:=aF.str (j:=j) (w:=w) s.data.toList (by simpa using Nat.le_of_ble_eq_true c)
   simpa using this
 ·subst h; exact .gH _ _ (by simp)
 ·subst h; exact .ew
 ·subst h; exact .k6
 ·subst h; exact .nilFunc
 ·subst h; exact .nilIface
theorem pO {j:J}{w:World}{jl:List Nat}{ts:Ts}{a:Act}(h:∀k,bD j w jl (get ts k) (a.tmps.getD k undef)) (x:Operand):bD j w jl (ev ts x) (a.eval x):=by
 cases x with
 | tmp t=>exact h t
 | const v =>
  simp only [ev,Hg,Act.eval]
  split
  ·rename_i x hx; exact Da j w v x hx
  ·trivial
 | global g=>trivial
 | func f=>exact aF.func f [] [] rfl (by simp)
structure fS [ez] (j:J) (w:World) (jl:List Nat) (σ:St) (a:Act):Prop where
 defers:a.defers=ez.ds
 size:a.tmps.size=σ.n
 tmps:∀k,bD j w jl (get σ.ts k) (a.tmps.getD k undef)
 hl:HL j w jl σ.ls σ.h
structure Fx where
 rl:Bool:=false
 wl:Bool:=false
 rh:Bool:=false
 wh:Bool:=false
 nu:Bool:=false
def dA [bP] (P:Program) (o:Oper) (ts:Ts) (ls:List (List D)) (h:ah) (R:V->List (List D)->ah->Prop):Prop :=
 ∀(j:J) (w:World) (jl:List Nat) (a:Act),HL j w jl ls h->(∀x,x∈o.op.operands->bD j w jl (ev ts x) (a.eval x)) ->
  ∀(K:Act->World->Prop) (Q:Exit->Act->World->Prop),
   (∀v aS h' cv j' w' bp,R v aS h'->bD j' w' bp v cv->HL j' w' bp aS h'->Ext jl bp->bT j w (aU j h jl) j' w' (aU j' h' bp)->K (a.put o.dst cv) w')->o.wp P a w K Q
def aq [bP] (P:Program) (o:Oper) (ts:Ts) (ls:List (List D)) (h:ah) (fx:Fx) (v:V) (aS:List (List D)) (h':ah):Prop :=
 ∀L H,((fx.rl||fx.wl)=true->L=ls)->((fx.rh||fx.wh)=true->H=h) ->
  dA P o ts L H fun u l k=>u=v/\l=(bif fx.wl then aS else L)/\k=(bif fx.wh then h' else H)
theorem aq.step {P:Program}{o:Oper}{ts:Ts}{ls aS:List (List D)}{h h':ah}{fx:Fx}{v:V}(hc:aq P o ts ls h fx v aS h') :
  dA P o ts ls h fun u l k=>u=v/\l=(bif fx.wl then aS else ls)/\k=(bif fx.wh then h' else h) :=
 hc ls h (fun _=>rfl) (fun _=>rfl)
theorem dA.mono {P:Program}{o:Oper}{ts:Ts}{ls:List (List D)}{h:ah}{R b:V->List (List D)->ah->Prop}(f:dA P o ts ls h R) (hr:∀v l k,R v l k->b v l k):dA P o ts ls h b :=
 fun j w jl a hl g K Q hk=>f j w jl a hl g K Q fun v aS h' cv j' w' bp r=>hk v aS h' cv j' w' bp (hr _ _ _ r)
def gL (dst:Option Tmp) (v:V) (ts:Ts):Ts :=
 match dst with
 | some d=>(d,v)::ts
 | none=>ts
def jb (dst:Option Tmp) (n:Nat):Bool :=
 match dst with
 | some d=>Nat.blt d n
 | none=>true
theorem Nt {j:J}{w:World}{jl:List Nat}{ts:Ts}{a:Act}{n:Nat}(b:a.tmps.size=n) (h:∀k,bD j w jl (get ts k) (a.tmps.getD k undef)){dst:Option Tmp}(hd:jb dst n=true)
  {v:V}{cv:Value}(hv:bD j w jl v cv):∀k,bD j w jl (get (gL dst v ts) k) ((a.put dst cv).tmps.getD k undef):=by
 intro k;cases dst with
 | none=>exact h k
 | some d =>
  simp only [gL,Act.put];have aJ:d<a.tmps.size:=by
   have:Nat.blt d n=true:=hd;rw [b]; simpa [Nat.blt_eq] using this
  by_cases e:d=k
  ·subst e;rw [gp]
   simpa [Array.getD_eq_getD_getElem?,aJ] using hv
  ·rw [ia _ _ e];have:=h k
   simpa [Array.getD_eq_getD_getElem?,Array.getElem?_setIfInBounds,e] using this
theorem Db (a:Act) (dst:Option Tmp) (v:Value):(a.put dst v).tmps.size=a.tmps.size:=by cases dst<;>simp [Act.put]
theorem put_defers (a:Act) (dst:Option Tmp) (v:Value):(a.put dst v).defers=a.defers:=by cases dst<;>rfl
theorem fS.put {j j':J}{w w':World}{jl bp:List Nat}{σ:St}{a:Act}(h:fS j w jl σ a) (hle:Le j w j' w') (hx:Ext jl bp){dst:Option Tmp}(hd:jb dst σ.n=true)
  {v:V}{cv:Value}(hv:bD j' w' bp v cv){aS:List (List D)}{h':ah}(hl:HL j' w' bp aS h'):fS j' w' bp ⟨σ.n,gL dst v σ.ts,aS,h'⟩ (a.put dst cv) :=
 ⟨by rw [put_defers]; exact h.defers,by rw [Db]; exact h.size,Nt h.size (fun k=>(h.tmps k).mono hle hx) hd hv,hl⟩
def guardOf (ops:Array Oper) (o:Oper):Option (Nat×Bool) :=
 match o.guard with
 | none=>none
 | some (g,want)=>match (ops[g]?).bind (·.dst) with
  | some d=>some (d,want)
  | none=>none
theorem rJ {ops:Array Oper}{o:Oper}{tmps:Array Value}(h:o.guard=none):Region.wanted o (yielded ops tmps)=true:=by simp [Region.wanted,h]
theorem Hh {j:J}{w:World}{jl:List Nat}{ts:Ts}{a:Act}{ops:Array Oper}{o:Oper}{d:Nat}{want b:Bool}(hg:guardOf ops o=some (d,want))
  (hd:get ts d=.a (.d (.bool b))) (h:bD j w jl (get ts d) (a.tmps.getD d undef)):Region.wanted o (yielded ops a.tmps)=(b==want):=by
 unfold guardOf at hg;rw [hd] at h;have hv:a.tmps.getD d undef=.bool b:=by
  have h':aF j w (.bool b) (a.tmps.getD d undef):=h;generalize a.tmps.getD d undef=x at h';cases h'; rfl
 have f:a.tmps[d]?=some (.bool b):=by
  rw [Array.getD_eq_getD_getElem?] at hv;cases e:a.tmps[d]? with
  | none=>rw [e] at hv; simp [undef] at hv
  | some x=>rw [e] at hv; simp at hv; rw [hv]
 split at hg
 ·simp at hg
 ·rename_i g k l
  split at hg
  ·rename_i p m
   simp only [Option.some.injEq,Prod.mk.injEq] at hg;obtain⟨rfl,rfl⟩:=hg;simp only [Region.wanted,l,yielded,m,Option.bind_some,f];cases b<;>cases k<;>rfl
  ·simp at hg
def aI [bP] [ez] (P:Program) (ops:Array Oper) (l:List Oper) (Q:St->Prop) (σ:St):Prop :=
 ∀(j:J) (w:World) (jl:List Nat) (a:Act),fS j w jl σ a->∀(Qc:Exit->Act->World->Prop),
  (∀b j' w' bp f,Q b->fS j' w' bp b f->bT j w (aU j σ.h jl) j' w' (aU j' b.h bp)->Qc .normal f w')->wpList P ops Qc l a w
section
variable {P:Program}{ops:Array Oper}{rest:List Oper}{o:Oper}{Q:St->Prop}{n:Nat}{ts:Ts}{ls:List (List D)}{h:ah}
theorem aI.nil {σ:St}(hq:Q σ):aI P ops [] Q σ:=fun _ _ _ _ b _ hk=>hk _ _ _ _ _ hq b (bT.refl _ _ _)
theorem aI.run {R:V->List (List D)->ah->Prop}(l:dA P o ts ls h R) (hd:jb o.dst n=true)
  (hr:∀v aS h',R v aS h'->aI P ops rest Q ⟨n,gL o.dst v ts,aS,h'⟩)
  {j:J}{w:World}{jl:List Nat}{a:Act}(f:fS j w jl ⟨n,ts,ls,h⟩ a) (m:Region.wanted o (yielded ops a.tmps)=true) (Qc:Exit->Act->World->Prop)
  (hk:∀b j' w' bp g,Q b->fS j' w' bp b g->bT j w (aU j h jl) j' w' (aU j' b.h bp)->Qc .normal g w'):wpList P ops Qc (o::rest) a w:=by
 refine wpList_step fun K p=>?_;rw [if_pos m];refine l j w jl a f.hl (fun x _=>pO f.tmps x) K Qc fun v aS h' cv j' w' bp r hv hl hx k=>p _ _ ?_;exact hr v aS h' r j' w' bp _ (f.put k.toLe hx hd hv hl) Qc fun b q s t a2 hq u y=>hk b q s t a2 hq u (k.trans y)
theorem aI.Hi {R:V->List (List D)->ah->Prop}(b:dA P o ts ls h R) (hg:o.guard=none) (hd:jb o.dst n=true)
  (hr:∀v aS h',R v aS h'->aI P ops rest Q ⟨n,gL o.dst v ts,aS,h'⟩):aI P ops (o::rest) Q ⟨n,ts,ls,h⟩ :=
 fun _ _ _ _ f Qc hk=>aI.run b hd hr f (rJ hg) Qc hk
theorem aI.step {fx:Fx}{v:V}{aS:List (List D)}{h':ah}(b:aq P o ts ls h fx v aS h') (hg:o.guard=none) (hd:jb o.dst n=true)
  (hr:aI P ops rest Q ⟨n,gL o.dst v ts,(bif fx.wl then aS else ls),(bif fx.wh then h' else h)⟩):aI P ops (o::rest) Q ⟨n,ts,ls,h⟩ :=
 aI.Hi b.step hg hd fun _ _ _ ⟨f,g,j⟩=>by rw [f,g,j]; exact hr
end
end Go.Ab
/-
 A region that draws its order: one walk in the order of the text serves every order,where what is not ordered does not meet.
-/
namespace Go.Ab
open Go Go.RowKit
variable {ak:bP}
def jc [bP] (P:Program) (ops:Array Oper) (n:Nat) (o:Oper) (ts:Ts) (ls:List (List D)) (h:ah) (fx:Fx) (v:V) (aS:List (List D)) (h':ah):Prop :=
 jb o.dst n=true/\∀L H,((fx.rl||fx.wl)=true->L=ls)->((fx.rh||fx.wh)=true->H=h) ->
  ∀(j:J) (w:World) (jl:List Nat) (a:Act),HL j w jl L H->(∀t,t∈o.looksAt ops->bD j w jl (get ts t) (a.tmps.getD t undef)) ->
   ∀(K:Act->World->Prop) (Q:Exit->Act->World->Prop),
    (∀cv j' w' bp,bD j' w' bp v cv->HL j' w' bp (bif fx.wl then aS else L) (bif fx.wh then h' else H)->Ext jl bp ->
     bT j w (aU j H jl) j' w' (aU j' (bif fx.wh then h' else H) bp)->K (a.put o.dst cv) w') ->
    if Region.wanted o (yielded ops a.tmps) then o.wp P a w K Q else K (a.put o.dst undef) w
theorem Dc {j:J}{w:World}{jl:List Nat}{ts:Ts}{a:Act}{ops:Array Oper}{o:Oper}(h:∀t,t∈o.looksAt ops->bD j w jl (get ts t) (a.tmps.getD t undef)) :
  ∀x,x∈o.op.operands->bD j w jl (ev ts x) (a.eval x):=by
 intro x hx;cases x with
 | tmp t=>exact h t (by simp only [Oper.looksAt,List.mem_append,List.mem_filterMap]; exact .inl ⟨.tmp t,by simpa using hx,rfl⟩)
 | const v=>exact pO (ts:=[]) (a:=⟨#[],[]⟩) (fun _=>trivial) (.const v)
 | global g=>trivial
 | func f=>exact pO (ts:=[]) (a:=⟨#[],[]⟩) (fun _=>trivial) (.func f)
theorem Nu {ops:Array Oper}{o:Oper}{d:Nat}{want:Bool}(hg:guardOf ops o=some (d,want)):d∈o.looksAt ops:=by
 unfold guardOf at hg
 split at hg
 ·simp at hg
 ·rename_i g j b
  split at hg
  ·rename_i k f
   simp only [Option.some.injEq,Prod.mk.injEq] at hg;obtain⟨rfl,rfl⟩:=hg;simp only [Oper.looksAt,b,List.mem_append]
   right
   rw [f]; simp
  ·simp at hg
section
variable {P:Program}{ops:Array Oper}{o:Oper}{n:Nat}{ts:Ts}{ls aS:List (List D)}{h h':ah}{fx:Fx}{v:V}
theorem jc.plain (b:aq P o ts ls h fx v aS h') (hg:o.guard=none) (hd:jb o.dst n=true):jc P ops n o ts ls h fx v aS h':=by
 refine⟨hd,fun L H f hH j w jl a hl g K Q hk=>?_⟩;rw [if_pos (rJ hg)];exact b L H f hH j w jl a hl (Dc g) K Q fun _ _ _ cv j' w' bp ⟨k,l,m⟩=>by subst k l m; exact hk cv j' w' bp
end
def rK (o:Oper) (acc:List Nat):Nat:=o.after.toList.foldl (fun s e=>bif Region.binds .any e then s ||| (2 ^ e.on) ||| acc.getD e.on 0 else s) 0
def iS:List Oper->List Nat->List Nat
 | [],acc=>acc
 | o::r,acc=>iS r (acc++[rK o acc])
theorem Hj:∀(l:List Oper) (acc:List Nat),(iS l acc).length=acc.length+l.length/\(iS l acc).take acc.length=acc /\
  ∀k o,l[k]?=some o->(iS l acc)[acc.length+k]?=some (rK o ((iS l acc).take (acc.length+k)))
 | [],acc=>by simp [iS]
 | o::r,acc=>by
  obtain⟨h1,h2,b⟩:=Hj r (acc++[rK o acc]);simp only [List.length_append,List.length_cons,List.length_nil] at h1 h2 b;have f:(iS r (acc++[rK o acc])).take acc.length=acc:=by
   have:=congrArg (List.take acc.length) h2;rw [List.take_take] at this
   simpa using this
  refine⟨by simp only [iS]; rw [h1]; simp; omega,f,fun k o' hk=>?_⟩;simp only [iS];cases k with
  | zero =>
   simp only [List.getElem?_cons_zero,Option.some.injEq] at hk;subst hk;rw [Nat.add_zero,f];have g:((iS r (acc++[rK o acc])).take (acc.length+(0+1)))[acc.length]?=(acc++[rK o acc])[acc.length]?:=by rw [h2]
   rw [List.getElem?_take_of_lt (by omega)] at g;rw [g]; simp
  | succ k =>
   simp only [List.getElem?_cons_succ] at hk;have:=b k o' hk;have e:acc.length+(0+1)+k=acc.length+(k+1):=by omega
   rw [e] at this;exact this
theorem Hl (acc:List Nat) (p:Nat):∀(es:List Edge) (s:Nat),(es.foldl (fun s e=>bif Region.binds .any e then s ||| (2 ^ e.on) ||| acc.getD e.on 0 else s) s).testBit p=true ->
  s.testBit p=true\/∃e,e∈es/\Region.binds .any e=true/\(p=e.on\/(acc.getD e.on 0).testBit p=true)
 | [],s,h=>.inl h
 | e::es,s,h=>by
  simp only [List.foldl_cons] at h;rcases Hl acc p es _ h with h1|⟨f,h1,h2,g⟩
  ·cases b:Region.binds .any e with
   | false=>rw [b] at h1; exact .inl h1
   | true =>
    rw [b] at h1;simp only [cond_true,Nat.testBit_or,Bool.or_eq_true] at h1;rcases h1 with (h1|h1)|h1
    ·exact .inl h1
    ·exact .inr ⟨e,by simp,b,.inl (by rw [Nat.testBit_two_pow] at h1; exact(of_decide_eq_true h1).symm)⟩
    ·exact .inr ⟨e,by simp,b,.inr h1⟩
  ·exact .inr ⟨f,by simp [h1],h2,g⟩
def Fx.iH (x y:Fx):Bool:=(x.wl&&(y.rl||y.wl))||(y.wl&&x.rl)||(x.wh&&(y.rh||y.wh))||(y.wh&&x.rh)
def Fx.plain (x:Fx):Fx:={ x with nu:=false }
def Ho (T:List Nat) (i k:Nat):Bool:=T.all fun m=>!m.testBit k||m.testBit i
def Hp (ops:Array Oper) (T:List Nat) (l:List (Oper×Fx)):Bool :=
 (List.range l.length).all fun k=>match l[k]? with
  | none=>true
  | some (ok,b)=>ok.after.toList.all (fun e=>!Region.binds .any e||Nat.blt e.on k) &&
   (List.range k).all fun i=>match l[i]? with
    | none=>true
    | some (oi,f)=>(T.getD k 0).testBit i||(oi.apart ops ok&&!f.iH b)||(b.nu&&oi.apart ops ok&&Ho T i k)
def nA (ops:Array Oper) (b:List Fx):Bool:=Hp ops (iS ops.toList []) (ops.toList.zip b)
def ord (ops:Array Oper) (i k:Nat):Prop:=((iS ops.toList []).getD k 0).testBit i=true
def rL (P:Program) (o:Oper) (v:V) (ls aS:List (List D)):Prop :=
 ∃(z:List D) (d:Nat),o.guard=none/\o.dst=some d/\v=.dH ls.length 0/\aS=ls++[z] /\
  ∃(cs:List Value) (e:TypeId),(∀j w,bI (aF j w) z cs) /\
   ∀(a:Act) (w:World) (K:Act->World->Prop) (Q:Exit->Act->World->Prop),K (a.put o.dst (.pointer (some ⟨w.heap.size,0,none⟩))) (w.alloc (.cells cs.toArray e))->o.wp P a w K Q
def mg [bP] (P:Program) (ops:Array Oper) (n:Nat) (S:Nat->St) (fx:Nat->Fx) (v:Nat->V) (k:Nat) (o:Oper):Prop :=
 jc P ops n o (S k).ts (S k).ls (S k).h (fx k) (v k) (S (k+1)).ls (S (k+1)).h/\(S (k+1)).n=(S k).n/\(S (k+1)).ts=gL o.dst (v k) (S k).ts /\
  ((fx k).wl=false->(S (k+1)).ls=(S k).ls)/\((fx k).wh=false->(S (k+1)).h=(S k).h) /\
  ((fx k).nu=true->(fx k).wl=true/\(fx k).wh=false/\rL P o (v k) (S k).ls (S (k+1)).ls)
def aH [bP] (P:Program) (ops:Array Oper) (n:Nat) (l:List Oper) (done:List Fx) (Q:St->Prop) (σ:St):Prop :=
 ∃(S:Nat->St) (fx:Nat->Fx) (v:Nat->V),S 0=σ/\(∀k o,l[k]?=some o->mg P ops n S fx v k o) /\
  nA ops (done.reverse++(List.range l.length).map fx)=true/\Q (S l.length)
theorem aH.nil {P:Program}{ops:Array Oper}{n:Nat}{done:List Fx}{Q:St->Prop}{σ:St}(hc:nA ops done.reverse=true) (hq:Q σ):aH P ops n [] done Q σ :=
 ⟨fun _=>σ,fun _=>{},fun _=>.any,rfl,by simp,by simpa using hc,hq⟩
theorem aH.Hq {P:Program}{ops:Array Oper}{o:Oper}{rest:List Oper}{n:Nat}{done:List Fx}{Q:St->Prop}{ts:Ts}{ls aS:List (List D)}{h h':ah}{fx:Fx}{v:V}
  (hc:jc P ops n o ts ls h fx v aS h') (l:fx.nu=true->fx.wl=true/\fx.wh=false/\rL P o v ls aS)
  (hr:aH P ops n rest (fx::done) Q ⟨n,gL o.dst v ts,(bif fx.wl then aS else ls),(bif fx.wh then h' else h)⟩) :
  aH P ops n (o::rest) done Q ⟨n,ts,ls,h⟩:=by
 obtain⟨S,f,u,h0,h1,h2,m⟩:=hr;refine⟨fun k=>match k with|0=>⟨n,ts,ls,h⟩|k+1=>S k,fun k=>match k with|0=>fx|k+1=>f k,fun k=>match k with|0=>v|k+1=>u k,rfl, ?_, ?_,m⟩
 ·intro k o' hk;cases k with
  | zero =>
   simp only [List.getElem?_cons_zero,Option.some.injEq] at hk;subst hk;unfold mg;dsimp only;rw [h0];refine⟨⟨hc.1,fun L H p hH j w jl a hl q K Q hk=>?_⟩,rfl,rfl,fun e=>by simp [e],fun e=>by simp [e],fun e=>?_⟩
   ·have:=hc.2 L H p hH j w jl a hl q K Q
    revert hk
    cases b:fx.wl<;>cases g:fx.wh<;>simp only [b,g,cond_true,cond_false] at this ⊢<;>exact this
   ·obtain⟨b,g,r⟩:=l e;exact⟨b,g,by rw [b]; exact r⟩
  | succ k =>
   simp only [List.getElem?_cons_succ] at hk;exact h1 k o' hk
 ·rw [List.length_cons,List.range_succ_eq_map,List.map_cons,List.map_map]
  simpa [Function.comp_def] using h2
theorem aH.cons {P:Program}{ops:Array Oper}{o:Oper}{rest:List Oper}{n:Nat}{done:List Fx}{Q:St->Prop}{ts:Ts}{ls aS:List (List D)}{h h':ah}{fx:Fx}{v:V}
  (hc:jc P ops n o ts ls h fx v aS h') (hr:aH P ops n rest (fx.plain::done) Q ⟨n,gL o.dst v ts,(bif fx.wl then aS else ls),(bif fx.wh then h' else h)⟩) :
  aH P ops n (o::rest) done Q ⟨n,ts,ls,h⟩ :=
 aH.Hq (fx:=fx.plain) hc (fun e=>by cases e) hr
theorem aH.born {P:Program}{ops:Array Oper}{o:Oper}{rest:List Oper}{n:Nat}{done:List Fx}{Q:St->Prop}{ts:Ts}{ls aS:List (List D)}{h:ah}{v:V}
  (b:rL P o v ls aS) (hd:jb o.dst n=true) (hr:aH P ops n rest ({ wl:=true,nu:=true }::done) Q ⟨n,gL o.dst v ts,aS,h⟩):aH P ops n (o::rest) done Q ⟨n,ts,ls,h⟩:=by
 refine aH.Hq (fx:={ wl:=true,nu:=true }) (h':=h) ⟨hd,fun L H f hH j w jl a hl l K Q hk=>?_⟩ (fun _=>⟨rfl,rfl,b⟩) hr;obtain⟨z,d,hg,m,hv,g,cs,e,hz,hw⟩:=b;rw [if_pos (rJ hg)];have k:=f rfl;subst k;obtain⟨h1,h2⟩:=hl.loc cs e z (hz j w);refine hw a w K Q (hk _ j _ (jl++[w.heap.size]) ?_ ?_ (fun i x hx=>by rw [List.getElem?_append_left (List.getElem?_eq_some_iff.1 hx).1]; exact hx) h2)
 ·rw [hv]; exact⟨w.heap.size,by rw [hl.2.each.length]; simp,rfl⟩
 ·rw [g]; exact h1
def jd (ops:Array Oper) (fx:Nat->Fx) (i k:Nat):Prop:=i<k/\(fx k).nu=true/\∃oi ok,ops[i]?=some oi/\ops[k]?=some ok/\oi.apart ops ok=true/\∀m,ord ops k m->ord ops i m
def vo (ops:Array Oper) (fx:Nat->Fx) (i k:Nat):Prop:=ord ops i k\/jd ops fx i k
section
variable {P:Program}{ops:Array Oper}{n:Nat}{S:Nat->St}{fx:Nat->Fx}{v:Nat->V}
theorem Dd (hc:nA ops ((List.range ops.toList.length).map fx)=true) :
  (∀k o,ops[k]?=some o->∀e,e∈o.after.toList->Region.binds .any e=true->e.on<k) /\
  (∀i k oi ok,i<k->ops[i]?=some oi->ops[k]?=some ok->vo ops fx i k\/(oi.apart ops ok=true/\(fx i).iH (fx k)=false)):=by
 have hz:∀k o,ops[k]?=some o->(ops.toList.zip ((List.range ops.toList.length).map fx))[k]?=some (o,fx k):=by
  intro k o hk;have aJ:k<ops.size:=by
   rcases Nat.lt_or_ge k ops.size with h|h
   ·exact h
   ·rw [Array.getElem?_eq_none h] at hk; simp at hk
  rw [List.getElem?_zip_eq_some];refine⟨by simpa using hk, ?_⟩;simp [aJ]
 have hlen:∀k o,ops[k]?=some o->k<(ops.toList.zip ((List.range ops.toList.length).map fx)).length:=by
  intro k o hk;have:=hz k o hk;exact(List.getElem?_eq_some_iff.1 this).1
 unfold nA Hp at hc;rw [List.all_eq_true] at hc;constructor
 ·intro k o hk e he f;have:=hc k (List.mem_range.2 (hlen k o hk));rw [hz k o hk] at this;simp only [Bool.and_eq_true,List.all_eq_true] at this;have h1:=this.1 e he;rw [f] at h1
  simpa [Nat.blt_eq] using h1
 ·intro i k oi ok b hi hk;have:=hc k (List.mem_range.2 (hlen k ok hk));rw [hz k ok hk] at this;simp only [Bool.and_eq_true,List.all_eq_true] at this;have h1:=this.2 i (List.mem_range.2 b);rw [hz i oi hi] at h1;simp only [Bool.or_eq_true,Bool.and_eq_true] at h1;rcases h1 with (h1|h1)|h1
  ·exact .inl (.inl h1)
  ·exact .inr ⟨h1.1,by simpa using h1.2⟩
  ·refine .inl (.inr ⟨b,h1.1.1,oi,ok,hi,hk,h1.1.2,fun m hm=>?_⟩);have h2:=h1.2;unfold Ho at h2;rw [List.all_eq_true] at h2;unfold ord at hm ⊢;rw [List.getD_eq_getElem?_getD] at hm ⊢;cases c:(iS ops.toList [])[m]? with
   | none=>rw [c] at hm; simp at hm
   | some x =>
    rw [c,Option.getD_some] at hm;rw [Option.getD_some];have:=h2 x (List.mem_of_getElem? c);rw [hm] at this
    simpa using this
theorem Nv (aJ:∀k o,ops[k]?=some o->∀e,e∈o.after.toList->Region.binds .any e=true->e.on<k){i k:Nat}(h:ord ops i k) :
  ∃o e,ops[k]?=some o/\e∈o.after.toList/\Region.binds .any e=true/\(i=e.on\/ord ops i e.on):=by
 obtain⟨h1,h2,b⟩:=Hj ops.toList [];simp only [List.length_nil,Nat.zero_add] at h1 b;unfold ord at h;cases hk:ops[k]? with
 | none =>
  have:ops.toList.length<=k:=by
   rcases Nat.lt_or_ge k ops.size with c|c
   ·rw [Array.getElem?_eq_getElem c] at hk; simp at hk
   ·simpa using c
  rw [List.getD_eq_getElem?_getD,List.getElem?_eq_none (by omega)] at h;simp at h
 | some o =>
  have hm:=b k o (by simpa using hk);rw [List.getD_eq_getElem?_getD,hm,Option.getD_some] at h;unfold rK at h;rcases Hl _ i _ _ h with c|⟨e,he,f,c⟩
  ·simp at c
  ·refine⟨o,e,rfl,he,f,c.imp id fun c=>?_⟩;have hl:=aJ k o hk e he f;unfold ord;rw [List.getD_eq_getElem?_getD,List.getElem?_take_of_lt hl,<- List.getD_eq_getElem?_getD] at c;exact c
end
end Go.Ab
/-
 A region that draws its order: every order comes to the same end.
-/
namespace Go.Ab
open Go Go.RowKit
variable {ak:bP}
variable {fE:ez}
def mh [bP] (P:Program) (ops:Array Oper) (n:Nat) (S:Nat->St) (fx:Nat->Fx) (v:Nat->V) (k:Nat) (o:Oper):Prop :=
 jb o.dst n=true/\(S (k+1)).n=(S k).n/\(S (k+1)).ts=gL o.dst (v k) (S k).ts /\
  ((fx k).wl=false->(S (k+1)).ls=(S k).ls)/\((fx k).wh=false->(S (k+1)).h=(S k).h) /\
  ((fx k).nu=true->(fx k).wl=true/\(fx k).wh=false/\rL P o (v k) (S k).ls (S (k+1)).ls)
theorem mg.w {P:Program}{ops:Array Oper}{n:Nat}{S:Nat->St}{fx:Nat->Fx}{v:Nat->V}{k:Nat}{o:Oper}(h:mg P ops n S fx v k o):mh P ops n S fx v k o:=⟨h.1.1,h.2⟩
def bh (aZ:Array Bool) (i:Nat):Prop:=aZ.getD i false=true
structure Inv [bP] [ez] (ops:Array Oper) (S:Nat->St) (fx:Nat->Fx) (v:Nat->V) (n:Nat) (j0:J) (w0:World) (O0:Nat->Prop) (bU aZ:Array Bool) (lim:List (Nat×Nat)) (tv:Nat->Value) (j:J) (w:World) (jl:List Nat) (a:Act):Prop where
 jm:bU.size=ops.size
 tV:aZ.size=ops.size
 gq:∀i,bh bU i↔(bh aZ i\/∃b,(i,b)∈lim)
 k_:∀k,bh bU k->∀p,ord ops p k->bh bU p
 closed:∀k,bh aZ k->∀p,vo ops fx p k->bh aZ p
 defers:a.defers=ez.ds
 rM:a.tmps.size=n
 agree:∀t,(∀m b o,(m,b)∈lim->ops[m]?=some o->o.dst≠some t)->a.tmps.getD t undef=tv t
 tm:∀t,∃k,k<=ops.size/\(∀p o,ops[p]?=some o->o.dst=some t->(bh aZ p↔p<k))/\bD j w jl (get (S k).ts t) (tv t)
 st:∃kl kh,kl<=ops.size/\kh<=ops.size/\(∀p,p<ops.size->(fx p).wl=true->(bh aZ p↔p<kl))/\(∀p,p<ops.size->(fx p).wh=true->(bh aZ p↔p<kh)) /\
  HL j w jl (S kl).ls (S kh).h/\bT j0 w0 O0 j w (aU j (S kh).h jl)/\∀m b,(m,b)∈lim->w0.heap.size<=b/\b<w.heap.size/\¬aU j (S kh).h jl b
 nd:lim.Pairwise fun x y=>x.1≠y.1/\x.2≠y.2
 pP:∀m b,(m,b)∈lim->¬bh aZ m/\(fx m).nu=true/\(∀p,ord ops p m->bh aZ p)/\∃o z d cs e,ops[m]?=some o/\o.dst=some d/\v m=.dH (S m).ls.length 0/\(S (m+1)).ls=(S m).ls++[z] /\
  (∀j w,bI (aF j w) z cs)/\w.heap[b]?=some (.cells cs.toArray e (0,0))/\j.F b=0/\a.tmps.getD d undef=.pointer (some ⟨b,0,none⟩)
section
variable {P:Program}{ops:Array Oper}{n:Nat}{S:Nat->St}{fx:Nat->Fx}{v:Nat->V}
theorem w8 {α:Type}(f:Nat->α){N:Nat}(W:Nat->Prop) (g:∀k,k<N->¬W k->f (k+1)=f k) :
  ∀(a b:Nat),a<=b->b<=N->(∀p,a<=p->p<b->¬W p)->f b=f a:=by
 intro a b l;induction b with
 | zero =>
  intro _ _;have:a=0:=by omega
  rw [this]
 | succ b j =>
  intro m hw;by_cases e:a=b+1
  ·rw [e]
  ·rw [g b (by omega) (hw b (by omega) (by omega))];exact j (by omega) (by omega) fun p h1 h2=>hw p h1 (by omega)
theorem tW {α:Type}(f:Nat->α){N:Nat}(W X:Nat->Prop) (g:∀k,k<N->¬W k->f (k+1)=f k){k i:Nat}(hk:k<=N) (hi:i<=N)
  (h1:∀p,p<N->W p->(X p↔p<k)) (h2:∀p,p<N->W p->(X p↔p<i)):f k=f i:=by
 rcases Nat.le_total k i with h|h
 ·exact(w8 f W g k i h hi fun p a b hw=>by have:=(h2 p (by omega) hw).2 b; have:=(h1 p (by omega) hw).1 this; omega).symm
 ·exact w8 f W g i k h hk fun p a b hw=>by have:=(h1 p (by omega) hw).2 b; have:=(h2 p (by omega) hw).1 this; omega
theorem De {aZ:Array Bool}{i:Nat}(h:i∈Region.ready .any ops aZ) (f:aZ.size=ops.size) :
  ∃o,ops[i]?=some o/\i<ops.size/\¬bh aZ i/\∀e,e∈o.after.toList->Region.binds .any e=true->bh aZ e.on:=by
 simp only [Region.ready,List.mem_filter,List.mem_range,Bool.and_eq_true,Bool.not_eq_true'] at h;obtain⟨aJ,h1,h2⟩:=h;refine⟨ops[i],by simp [aJ],aJ, ?_, ?_⟩
 ·unfold bh;rw [Array.getD_eq_getD_getElem?,Array.getElem?_eq_getElem (by omega)] at h1 ⊢;simp at h1 ⊢; exact h1
 ·intro e he b;rw [Array.getElem?_eq_getElem aJ] at h2;simp only [Option.map_some,Option.getD_some,Array.all_eq_true'] at h2;have:=h2 e (by simpa using he);rw [b] at this
  simpa [bh] using this
theorem bh.set {aZ:Array Bool}{i p:Nat}(hi:i<aZ.size):bh (aZ.setIfInBounds i true) p↔(p=i\/bh aZ p):=by
 unfold bh;rw [Array.getD_eq_getD_getElem?,Array.getElem?_setIfInBounds];by_cases e:i=p
 ·subst e; simp [hi]
 ·rw [if_neg e];constructor
  ·intro h; right; rw [Array.getD_eq_getD_getElem?]; exact h
  ·rintro (h|h)
   ·omega
   ·rw [Array.getD_eq_getD_getElem?] at h; exact h
variable (aJ:∀k o,ops[k]?=some o->∀e,e∈o.after.toList->Region.binds .any e=true->e.on<k)
 (c_:∀i k oi ok,i<k->ops[i]?=some oi->ops[k]?=some ok->vo ops fx i k\/(oi.apart ops ok=true/\(fx i).iH (fx k)=false))
 (hS:∀k o,ops[k]?=some o->mh P ops n S fx v k o)
 {j0:J}{w0:World}{O0:Nat->Prop}
include aJ in
theorem z_ {aZ:Array Bool}{i:Nat}{o:Oper}(j:ops[i]?=some o) (l:∀k,bh aZ k->∀p,ord ops p k->bh aZ p)
  (f:∀e,e∈o.after.toList->Region.binds .any e=true->bh aZ e.on){p:Nat}(h:ord ops p i):bh aZ p:=by
 obtain⟨o',e,h1,h2,g,b⟩:=Nv aJ h;rw [j] at h1; simp only [Option.some.injEq] at h1; subst h1;rcases b with b|b
 ·rw [b]; exact f e h2 g
 ·exact l e.on (f e h2 g) p b
include c_ in
theorem w9 {aZ:Array Bool}{i:Nat}{o:Oper}(b:ops[i]?=some o) (f:¬bh aZ i) (j:∀k,bh aZ k->∀p,vo ops fx p k->bh aZ p)
  (l:∀p,vo ops fx p i->bh aZ p){p:Nat}{op:Oper}(g:ops[p]?=some op)
  (m:p<i->op.apart ops o=true->(fx p).iH (fx i)=false->False) (q:i<p->o.apart ops op=true->(fx i).iH (fx p)=false->False):bh aZ p↔p<i:=by
 rcases Nat.lt_trichotomy p i with h|h|h
 ·refine⟨fun _=>h,fun _=>?_⟩;rcases c_ p i op o h g b with h1|⟨h1,h2⟩
  ·exact l p h1
  ·exact(m h h1 h2).elim
 ·subst h; exact⟨fun h=>(f h).elim,fun h=>by omega⟩
 ·refine⟨fun hr=>?_,fun h'=>by omega⟩;rcases c_ i p o op h b g with h1|⟨h1,h2⟩
  ·exact(f (j p hr i h1)).elim
  ·exact(q h h1 h2).elim
theorem jo {i:Nat}(h:i<ops.size):ops[i]?=some ops[i]:=Array.getElem?_eq_getElem h
theorem nB {i:Nat}{o:Oper}(h:ops[i]?=some o):i<ops.size:=by
 rcases Nat.lt_or_ge i ops.size with h'|h'
 ·exact h'
 ·rw [Array.getElem?_eq_none h'] at h; simp at h
include hS in
theorem Df (t:Nat):∀k,k<ops.size->¬(∃o,ops[k]?=some o/\o.dst=some t)->get (S (k+1)).ts t=get (S k).ts t:=by
 intro k hk hn;rw [(hS k _ (jo hk)).2.2.1];cases hd:(ops[k]).dst with
 | none=>rfl
 | some d =>
  simp only [gL];exact ia _ _ fun e=>hn ⟨_,jo hk,by rw [hd,e]⟩
include c_ hS in
theorem Aa {aZ:Array Bool}{i kl:Nat}{o:Oper}(b:ops[i]?=some o) (f:¬bh aZ i) (g:∀k,bh aZ k->∀p,vo ops fx p k->bh aZ p) (j:∀p,vo ops fx p i->bh aZ p)
  (l:kl<=ops.size) (m:∀p,p<ops.size->(fx p).wl=true->(bh aZ p↔p<kl)) (hr:((fx i).rl||(fx i).wl)=true):(S kl).ls=(S i).ls :=
 tW (fun k=>(S k).ls) (fun p=>(fx p).wl=true) (bh aZ) (fun k hk hn=>(hS k _ (jo hk)).2.2.2.1 (by simpa using hn)) l (Nat.le_of_lt (nB b)) m fun p q hw =>
  w9 c_ b f g j (jo q) (fun _ _ c=>by simp [Fx.iH] at c; simp only [Bool.or_eq_true] at hr; rcases hr with r|r<;>simp [r,hw] at c)
   (fun _ _ c=>by simp [Fx.iH] at c; simp only [Bool.or_eq_true] at hr; rcases hr with r|r<;>simp [r,hw] at c)
include c_ hS in
theorem Ac {aZ:Array Bool}{i kh:Nat}{o:Oper}(b:ops[i]?=some o) (f:¬bh aZ i) (g:∀k,bh aZ k->∀p,vo ops fx p k->bh aZ p) (j:∀p,vo ops fx p i->bh aZ p)
  (l:kh<=ops.size) (m:∀p,p<ops.size->(fx p).wh=true->(bh aZ p↔p<kh)) (hr:((fx i).rh||(fx i).wh)=true):(S kh).h=(S i).h :=
 tW (fun k=>(S k).h) (fun p=>(fx p).wh=true) (bh aZ) (fun k hk hn=>(hS k _ (jo hk)).2.2.2.2.1 (by simpa using hn)) l (Nat.le_of_lt (nB b)) m fun p q hw =>
  w9 c_ b f g j (jo q) (fun _ _ c=>by simp [Fx.iH] at c; simp only [Bool.or_eq_true] at hr; rcases hr with r|r<;>simp [r,hw] at c)
   (fun _ _ c=>by simp [Fx.iH] at c; simp only [Bool.or_eq_true] at hr; rcases hr with r|r<;>simp [r,hw] at c)
include c_ in
theorem Dg {aZ:Array Bool}{i k:Nat}{o:Oper}(l:i<aZ.size) (m:ops[i]?=some o) (q:¬bh aZ i) (r:∀k,bh aZ k->∀p,vo ops fx p k->bh aZ p) (s:∀p,vo ops fx p i->bh aZ p)
  (W:Fx->Bool) (f:∀x y:Fx,W x=true->W y=true->x.iH y=true) (hw:∀p,p<ops.size->W (fx p)=true->(bh aZ p↔p<k)) :
  ∀p,p<ops.size->W (fx p)=true->(bh (aZ.setIfInBounds i true) p↔p<(bif W (fx i) then i+1 else k)):=by
 intro p g b;rw [bh.set l];by_cases e:p=i
 ·subst e; simp [b]
 ·simp only [e,false_or];cases j:W (fx i) with
  | false=>simp only [cond_false]; exact hw p g b
  | true =>
   simp only [cond_true];have:=w9 c_ m q r s (jo g) (fun _ _ c=>by rw [f _ _ b j] at c; cases c) (fun _ _ c=>by rw [f _ _ j b] at c; cases c);rw [this]; omega
include c_ hS in
theorem Hr {aZ:Array Bool}{i:Nat}{o:Oper}{j j':J}{w w':World}{jl bp:List Nat}{tv g:Nat->Value}(l:i<aZ.size) (f:ops[i]?=some o) (m:¬bh aZ i)
  (q:∀k,bh aZ k->∀p,vo ops fx p k->bh aZ p) (r:∀p,vo ops fx p i->bh aZ p) (hle:Le j w j' w') (hx:Ext jl bp){cv:Value}(hv:bD j' w' bp (v i) cv)
  (h1:∀t,o.dst=some t->g t=cv) (h2:∀t,o.dst≠some t->g t=tv t)
  (s:∀t,∃k,k<=ops.size/\(∀p o,ops[p]?=some o->o.dst=some t->(bh aZ p↔p<k))/\bD j w jl (get (S k).ts t) (tv t)) :
  ∀t,∃k,k<=ops.size/\(∀p o,ops[p]?=some o->o.dst=some t->(bh (aZ.setIfInBounds i true) p↔p<k))/\bD j' w' bp (get (S k).ts t) (g t):=by
 intro t;have z:=nB f;by_cases ht:o.dst=some t
 ·refine⟨i+1,by omega,fun p op b hd=>?_, ?_⟩
  ·rw [bh.set l];by_cases e:p=i
   ·subst e; simp
   ·have:=w9 c_ f m q r b (fun _ c _=>(Oper.apart_spec c).2.1 t hd ht) (fun _ c _=>(Oper.apart_spec c).2.1 t ht hd);rw [this]; omega
  ·rw [(hS i o f).2.2.1,ht,h1 t ht];simp only [gL,gp];exact hv
 ·obtain⟨k,u,hw,y⟩:=s t;refine⟨k,u,fun p op b hd=>?_, ?_⟩
  ·rw [bh.set l];have:p≠i:=fun e=>by subst e; rw [f] at b; simp only [Option.some.injEq] at b; subst b; exact ht hd
   simp only [this,false_or]; exact hw p op b hd
  ·rw [h2 t ht]; exact y.mono hle hx
theorem Hs (x y:Fx) (hx:x.wl=true) (b:y.wl=true):x.iH y=true:=by simp [Fx.iH,hx,b]
theorem Nw (x y:Fx) (hx:x.wh=true) (b:y.wh=true):x.iH y=true:=by simp [Fx.iH,hx,b]
theorem Ad {aZ:Array Bool}{i:Nat}{R:Nat->Nat->Prop}(f:i<aZ.size) (g:∀k,bh aZ k->∀p,R p k->bh aZ p) (j:∀p,R p i->bh aZ p) :
  ∀k,bh (aZ.setIfInBounds i true) k->∀p,R p k->bh (aZ.setIfInBounds i true) p:=by
 intro k hr p b;rw [bh.set f] at hr ⊢;rcases hr with hr|hr
 ·subst hr; exact .inr (j p b)
 ·exact .inr (g k hr p b)
theorem Ae (a:Act) (dst:Option Tmp) (cv:Value) (t:Nat) (h:dst≠some t):(a.put dst cv).tmps.getD t undef=a.tmps.getD t undef:=by
 cases dst with
 | none=>rfl
 | some d =>
  have:d≠t:=fun e=>h (by rw [e]);simp [Act.put,Array.getD_eq_getD_getElem?,Array.getElem?_setIfInBounds,this]
theorem Hu (a:Act) (t:Nat) (cv:Value) (h:t<a.tmps.size):(a.put (some t) cv).tmps.getD t undef=cv:=by
 simp [Act.put,Array.getD_eq_getD_getElem?,h]
theorem Nx {aZ:Array Bool}{i m:Nat}{o b:Oper}(c_:∀i k oi ok,i<k->ops[i]?=some oi->ops[k]?=some ok->vo ops fx i k\/(oi.apart ops ok=true/\(fx i).iH (fx k)=false))
  (f:ops[i]?=some o) (hm:ops[m]?=some b) (s:m≠i) (l:¬bh aZ m) (q:∀p,vo ops fx p i->bh aZ p) (r:¬ord ops i m){d:Nat}(hd:b.dst=some d):d∉o.looksAt ops/\o.dst≠some d:=by
 rcases Nat.lt_or_ge m i with h|h
 ·rcases c_ m i b o h hm f with h1|⟨h1,_⟩
  ·exact(l (q m h1)).elim
  ·exact⟨(Oper.apart_spec h1).1 d hd,fun e=>(Oper.apart_spec h1).2.1 d hd e⟩
 ·have h:i<m:=by omega
  have:o.apart ops b=true:=by
   rcases c_ i m o b h f hm with (h1|⟨_,_,oi,ok,g,j,h1,_⟩)|⟨h1,_⟩
   ·exact(r h1).elim
   ·rw [f] at g; rw [hm] at j; simp only [Option.some.injEq] at g j; subst g j; exact h1
   ·exact h1
  exact⟨(Oper.apart_spec this).2.2 d hd,fun e=>(Oper.apart_spec this).2.1 d e hd⟩
def tX [bP] (ops:Array Oper) (S:Nat->St) (fx:Nat->Fx) (j0:J) (w0:World) (O0:Nat->Prop) (aZ:Array Bool) (lim:List (Nat×Nat)) (j:J) (w:World) (jl:List Nat) (kl kh:Nat):Prop :=
 kl<=ops.size/\kh<=ops.size/\(∀p,p<ops.size->(fx p).wl=true->(bh aZ p↔p<kl))/\(∀p,p<ops.size->(fx p).wh=true->(bh aZ p↔p<kh)) /\
  HL j w jl (S kl).ls (S kh).h/\bT j0 w0 O0 j w (aU j (S kh).h jl)/\∀m b,(m,b)∈lim->w0.heap.size<=b/\b<w.heap.size/\¬aU j (S kh).h jl b
include c_ in
theorem Hv {bU aZ:Array Bool}{lim:List (Nat×Nat)}{tv:Nat->Value}{j:J}{w:World}{jl:List Nat}{a:Act}(hinv:Inv ops S fx v n j0 w0 O0 bU aZ lim tv j w jl a){i:Nat}{o:Oper}
  (k:ops[i]?=some o) (g:¬bh bU i) (l:∀p,vo ops fx p i->bh aZ p):∀m b f d,(m,b)∈lim->ops[m]?=some f->f.dst=some d->d∉o.looksAt ops/\o.dst≠some d:=fun m b f d hm q hd =>
 have r:∀b,(i,b)∉lim:=fun b c=>g ((hinv.gq i).2 (.inr ⟨b,c⟩))
 Nx c_ k q (fun e=>r b (e▸hm)) (hinv.pP m b hm).1 l (fun c=>g (hinv.k_ m ((hinv.gq m).2 (.inr ⟨b,hm⟩)) i c)) hd
include c_ hS in
theorem Hw {bU aZ:Array Bool}{lim:List (Nat×Nat)}{tv:Nat->Value}{j:J}{w:World}{jl:List Nat}{a:Act}(hinv:Inv ops S fx v n j0 w0 O0 bU aZ lim tv j w jl a){i:Nat}{o:Oper}
  (f:ops[i]?=some o) (g:¬bh bU i) (l:∀p,vo ops fx p i->bh aZ p):∀t,t∈o.looksAt ops->bD j w jl (get (S i).ts t) (a.tmps.getD t undef):=by
 intro t ht;have q:¬bh aZ i:=fun c=>g ((hinv.gq i).2 (.inl c));rw [hinv.agree t fun m b r hm s hd=>(Hv c_ hinv f g l m b r t hm s hd).1 ht];obtain⟨k,hk,hw,hv⟩:=hinv.tm t;have:get (S k).ts t=get (S i).ts t :=
  tW (fun k=>get (S k).ts t) (fun p=>∃o,ops[p]?=some o/\o.dst=some t) (bh aZ) (Df hS t) hk (Nat.le_of_lt (nB f)) (fun p _ ⟨op,h1,h2⟩=>hw p op h1 h2) fun p _ ⟨op,h1,h2⟩ =>
   w9 c_ f q hinv.closed l h1 (fun _ c _=>(Oper.apart_spec c).1 t h2 ht) (fun _ c _=>(Oper.apart_spec c).2.2 t h2 ht)
 rw [<- this]; exact hv
include aJ c_ hS in
theorem Hx {bU aZ:Array Bool}{lim:List (Nat×Nat)}{tv:Nat->Value}{j:J}{w:World}{jl:List Nat}{a:Act}(hinv:Inv ops S fx v n j0 w0 O0 bU aZ lim tv j w jl a){kl kh:Nat}(H:tX ops S fx j0 w0 O0 aZ lim j w jl kl kh){i:Nat}{o:Oper}
  (f:ops[i]?=some o) (q:¬bh bU i) (I:∀e,e∈o.after.toList->Region.binds .any e=true->bh bU e.on) (l:∀p,vo ops fx p i->bh aZ p)
  {cv:Value}{j':J}{w':World}{bp:List Nat}(hv:bD j' w' bp (v i) cv) (hl:HL j' w' bp (bif (fx i).wl then(S (i+1)).ls else(S kl).ls) (bif (fx i).wh then(S (i+1)).h else(S kh).h)) (hx:Ext jl bp)
  (he:bT j w (aU j (S kh).h jl) j' w' (aU j' (bif (fx i).wh then(S (i+1)).h else(S kh).h) bp)) :
  Inv ops S fx v n j0 w0 O0 (bU.setIfInBounds i true) (aZ.setIfInBounds i true) lim (fun t=>if o.dst=some t then cv else tv t) j' w' bp (a.put o.dst cv):=by
 have y:=nB f;have g:i<aZ.size:=by rw [hinv.tV]; exact y
 have B:i<bU.size:=by rw [hinv.jm]; exact y
 have r:¬bh aZ i:=fun c=>q ((hinv.gq i).2 (.inl c));have K:∀b,(i,b)∉lim:=fun b c=>q ((hinv.gq i).2 (.inr ⟨b,c⟩));have C:=(hS i o f).1;obtain⟨U,W,L,M,X,N,E⟩:=H;have O:=Hv c_ hinv f q l;have s:(S (bif (fx i).wh then i+1 else kh)).h=(bif (fx i).wh then(S (i+1)).h else(S kh).h):=by cases (fx i).wh<;>rfl
 refine⟨by simp [hinv.jm],by simp [hinv.tV],fun k=>?_,Ad B hinv.k_ fun p u=>z_ aJ f hinv.k_ I u,Ad g hinv.closed l,by rw [put_defers]; exact hinv.defers,
  by rw [Db]; exact hinv.rM,fun t ht=>?_,Hr c_ hS g f r hinv.closed l he.toLe hx hv (fun t e=>by simp [e]) (fun t e=>by simp [e]) hinv.tm, ?_,hinv.nd,fun m b hm=>?_⟩
 ·rw [bh.set B,bh.set g,hinv.gq k];constructor
  ·rintro (h|h|h)
   ·exact .inl (.inl h)
   ·exact .inl (.inr h)
   ·exact .inr h
  ·rintro ((h|h)|h)
   ·exact .inl h
   ·exact .inr (.inl h)
   ·exact .inr (.inr h)
 ·by_cases e:o.dst=some t
  ·rw [if_pos e,e];refine Hu a t cv ?_;rw [e] at C;rw [hinv.rM]; simpa [jb,Nat.blt_eq] using C
  ·rw [if_neg e,Ae a o.dst cv t e]; exact hinv.agree t ht
 ·refine⟨(bif (fx i).wl then i+1 else kl),(bif (fx i).wh then i+1 else kh),by cases (fx i).wl<;>simp<;>omega,by cases (fx i).wh<;>simp<;>omega,
   Dg c_ g f r hinv.closed l (·.wl) Hs L,Dg c_ g f r hinv.closed l (·.wh) Nw M, ?_, ?_,fun m b hm=>?_⟩
  ·have P:(S (bif (fx i).wl then i+1 else kl)).ls=(bif (fx i).wl then(S (i+1)).ls else(S kl).ls):=by cases (fx i).wl<;>rfl
   rw [P,s]; exact hl
  ·rw [s]; exact N.trans he
  ·obtain⟨g1,g2,g3⟩:=E m b hm;rw [s];exact⟨g1,Nat.lt_of_lt_of_le g2 he.size,fun c=>g3 (he.own b g2 c)⟩
 ·obtain⟨g1,g2,g0,F,z,d,cs,e,g3,g4,g5,g6,g7,g8,g9,g10⟩:=hinv.pP m b hm;obtain⟨Y,Q,R⟩:=E m b hm;have G:=he.frame b Q R;refine⟨fun c=>?_,g2,fun p u=>(bh.set g).2 (.inr (g0 p u)),F,z,d,cs,e,g3,g4,g5,g6,g7,by rw [G.1]; exact g8,by rw [G.2]; exact g9, ?_⟩
  ·rcases (bh.set g).1 c with c|c
   ·subst c; exact K b hm
   ·exact g1 c
  ·rw [Ae a o.dst cv d (O m b F d hm g3 g4).2]; exact g10
include aJ c_ hS in
theorem Hy {bU aZ:Array Bool}{lim:List (Nat×Nat)}{tv:Nat->Value}{j:J}{w:World}{jl:List Nat}{a:Act}(hinv:Inv ops S fx v n j0 w0 O0 bU aZ lim tv j w jl a){i:Nat}{o:Oper}
  (b:ops[i]?=some o) (y:jc P ops n o (S i).ts (S i).ls (S i).h (fx i) (v i) (S (i+1)).ls (S (i+1)).h) (k:¬bh bU i) (z:∀e,e∈o.after.toList->Region.binds .any e=true->bh bU e.on) (f:∀p,vo ops fx p i->bh aZ p)
  {K:Act->World->Prop}{Q:Exit->Act->World->Prop}(hk:∀B j' w' bp l,Inv ops S fx v n j0 w0 O0 (bU.setIfInBounds i true) (aZ.setIfInBounds i true) lim B j' w' bp l->K l w'):wpOp P ops Q i K a w:=by
 have m:¬bh aZ i:=fun c=>k ((hinv.gq i).2 (.inl c));obtain⟨kl,kh,q,r,s,t,u,C,E⟩:=hinv.st;have F:=Aa c_ hS b m hinv.closed f q s;have hH:=Ac c_ hS b m hinv.closed f r t;have g:=y.2 (S kl).ls (S kh).h F hH j w jl a u (Hw c_ hS hinv b k f) K Q fun cv j' w' bp hv hl hx he =>
  hk _ j' w' bp _ (Hx aJ c_ hS hinv ⟨q,r,s,t,u,C,E⟩ b k z f hv hl hx he)
 unfold wpOp;simp only [b]
 split
 ·rename_i hw; rw [if_pos hw] at g; exact .inl g
 ·rename_i hw; rw [if_neg hw] at g; exact g
include aJ c_ hS in
theorem Hz {bU aZ:Array Bool}{lim:List (Nat×Nat)}{tv:Nat->Value}{j:J}{w:World}{jl:List Nat}{a:Act}(hinv:Inv ops S fx v n j0 w0 O0 bU aZ lim tv j w jl a){i:Nat}{o:Oper}
  (f:ops[i]?=some o) (u:¬bh bU i) (O:∀e,e∈o.after.toList->Region.binds .any e=true->bh bU e.on) (C:∀p,ord ops p i->bh aZ p) (E:(fx i).nu=true)
  {K:Act->World->Prop}{Q:Exit->Act->World->Prop}(hk:∀w' F b,Inv ops S fx v n j0 w0 O0 (bU.setIfInBounds i true) aZ ((i,b)::lim) tv j w' jl F->K F w'):wpOp P ops Q i K a w:=by
 have R:=nB f;have G:i<bU.size:=by rw [hinv.jm]; exact R
 have U:¬bh aZ i:=fun c=>u ((hinv.gq i).2 (.inl c));have H:∀b,(i,b)∉lim:=fun b c=>u ((hinv.gq i).2 (.inr ⟨b,c⟩));obtain⟨W,aw,ax,ay,az,X⟩:=hS i o f;obtain⟨aA,aB,z,d,hg,hd,hv,Y,cs,e,hz,Z⟩:=X E;obtain⟨kl,kh,aa,ab,ad,ae,r,I,y⟩:=hinv.st;have af:d<a.tmps.size:=by
  have L:=W;rw [hd] at L;rw [hinv.rM]; simpa [jb,Nat.blt_eq] using L
 have ai:∀m b g t,(m,b)∈lim->ops[m]?=some g->g.dst=some t->t≠d:=fun m b g t hm s ht e=>by
  subst e;have aC:m≠i:=fun e=>H b (e▸hm);have aj:¬ord ops i m:=fun c=>u (hinv.k_ m ((hinv.gq m).2 (.inr ⟨b,hm⟩)) i c);rcases Nat.lt_or_ge m i with h|h
  ·rcases c_ m i g o h s f with (h1|⟨_,_,oi,ok,l,q,h1,_⟩)|⟨h1,_⟩
   ·exact(hinv.pP m b hm).1 (C m h1)
   ·rw [s] at l; rw [f] at q; simp only [Option.some.injEq] at l q; subst l q; exact(Oper.apart_spec h1).2.1 t ht hd
   ·exact(Oper.apart_spec h1).2.1 t ht hd
  ·rcases c_ i m o g (by omega) f s with (h1|⟨_,_,oi,ok,l,q,h1,_⟩)|⟨h1,_⟩
   ·exact aj h1
   ·rw [f] at l; rw [s] at q; simp only [Option.some.injEq] at l q; subst l q; exact(Oper.apart_spec h1).2.1 t hd ht
   ·exact(Oper.apart_spec h1).2.1 t hd ht
 have M:=r.data (ak:=ak) (.cells cs.toArray e) 0;rw [J.z6 (r.1.fresh _ (Nat.le_refl _))] at M;obtain⟨al,N⟩:=M;unfold wpOp;simp only [f];rw [if_pos (rJ hg)];refine .inl (Z a w K Q (hk _ _ w.heap.size ?_));refine⟨by simp [hinv.jm],hinv.tV,fun k=>?_,Ad G hinv.k_ fun p am=>z_ aJ f hinv.k_ O am,hinv.closed,by rw [put_defers]; exact hinv.defers,by rw [Db]; exact hinv.rM,
  fun t ht=>?_,fun t=>?_,⟨kl,kh,aa,ab,ad,ae,al,I.trans N,fun m b hm=>?_⟩, ?_,fun m b hm=>?_⟩
 ·rw [bh.set G,hinv.gq k];constructor
  ·rintro (h|h|⟨b,h⟩)
   ·exact .inr ⟨w.heap.size,by rw [h]; simp⟩
   ·exact .inl h
   ·exact .inr ⟨b,by simp [h]⟩
  ·rintro (h|⟨b,h⟩)
   ·exact .inr (.inl h)
   ·rcases List.mem_cons.1 h with h|h
    ·exact .inl (by simpa using congrArg Prod.fst h)
    ·exact .inr (.inr ⟨b,h⟩)
 ·have h1:o.dst≠some t:=ht i w.heap.size o (by simp) f;rw [Ae a o.dst _ t h1];exact hinv.agree t fun m b g hm=>ht m b g (by simp [hm])
 ·obtain⟨k,h1,h2,an⟩:=hinv.tm t;exact⟨k,h1,h2,an.mono N.toLe (Ext.refl _)⟩
 ·rcases List.mem_cons.1 hm with h|h
  ·simp only [Prod.mk.injEq] at h;obtain⟨rfl,rfl⟩:=h;exact⟨I.size,by simp,fun c=>Nat.lt_irrefl _ (aU.lt r c)⟩
  ·obtain⟨g1,g2,g3⟩:=y m b h;exact⟨g1,by simp; omega,g3⟩
 ·refine List.pairwise_cons.2 ⟨fun x hx=>⟨fun c=>H x.2 (by have c:i=x.1:=c; rw [c]; exact hx),fun c=>?_⟩,hinv.nd⟩;have:=(y x.1 x.2 hx).2.1;simp only at c;omega
 ·rcases List.mem_cons.1 hm with h|h
  ·simp only [Prod.mk.injEq] at h;obtain⟨rfl,rfl⟩:=h;refine⟨U,E,C,o,z,d,cs,e,f,hd,hv,Y,hz,heap_alloc_new w _,r.1.fresh _ (Nat.le_refl _), ?_⟩;rw [hd]; exact Hu a d _ af
  ·obtain⟨g1,g2,g0,g,ao,B,ap,ar,g3,g4,g5,g6,g7,g8,g9,g10⟩:=hinv.pP m b h;obtain⟨aD,av,aE⟩:=y m b h;refine⟨g1,g2,g0,g,ao,B,ap,ar,g3,g4,g5,g6,g7,by rw [pM av]; exact g8,g9, ?_⟩;rw [Ae a o.dst _ B (by rw [hd]; intro c; simp only [Option.some.injEq] at c; exact ai m b g B h g3 g4 c.symm)];exact g10
theorem HA:∀{l:List (Nat×Nat)},l.Pairwise (fun x y=>x.1≠y.1/\x.2≠y.2)->∀{x y},x∈l->y∈l->x.1≠y.1->x.2≠y.2
 | [],_,_,_,hx,_,_=>by simp at hx
 | a::l,h,x,y,hx,j,hn=>by
  obtain⟨h1,h2⟩:=List.pairwise_cons.1 h;rcases List.mem_cons.1 hx with ex|b<;>rcases List.mem_cons.1 j with f|g
  ·subst ex f; exact(hn rfl).elim
  ·subst ex; exact(h1 y g).2
  ·subst f; exact(h1 x b).2.symm
  ·exact HA h2 b g hn
include c_ hS in
theorem Ny {bU aZ:Array Bool}{lim:List (Nat×Nat)}{tv:Nat->Value}{j:J}{w:World}{jl:List Nat}{a:Act}(hinv:Inv ops S fx v n j0 w0 O0 bU aZ lim tv j w jl a){m b:Nat}
  (hm:(m,b)∈lim) (s:∀p,vo ops fx p m->bh aZ p):∃N,Inv ops S fx v n j0 w0 O0 bU (aZ.setIfInBounds m true) (lim.filter fun x=>x.1 != m) N j w (jl++[b]) a:=by
 obtain⟨B,O,_,o,z,d,cs,e,q,hd,hv,P,hz,Q,R,U⟩:=hinv.pP m b hm;have W:=nB q;have l:m<aZ.size:=by rw [hinv.tV]; exact W
 obtain⟨kl,kh,X,Y,G,Z,r,C,H⟩:=hinv.st;obtain⟨ae,af,I⟩:=H m b hm;obtain⟨K,aa,_⟩:=(hS m o q).2.2.2.2.2 O;have L:=Aa c_ hS q B hinv.closed s X G (by rw [K]; simp);have hx:Ext jl (jl++[b]):=fun i x hx=>by rw [List.getElem?_append_left (List.getElem?_eq_some_iff.1 hx).1]; exact hx
 have E:∀m' f,(m',f)∈lim.filter (fun x=>x.1 != m)->(m',f)∈lim/\m'≠m:=fun m' f h=>by
  rw [List.mem_filter] at h; exact⟨h.1,by simpa using h.2⟩
 refine⟨fun t=>if o.dst=some t then .pointer (some ⟨b,0,none⟩) else tv t,hinv.jm,by simp [hinv.tV],fun k=>?_,hinv.k_,Ad l hinv.closed s,hinv.defers,hinv.rM,fun t ht=>?_,
  Hr c_ hS l q B hinv.closed s (Le.refl j w) hx (cv:=.pointer (some ⟨b,0,none⟩)) ?_ (fun t e=>by simp [e]) (fun t e=>by simp [e]) hinv.tm,
  ⟨m+1,kh,by omega,Y, ?_,fun p F hw=>?_, ?_,{ C with own:=fun f u g=>?_ },fun m' f h=>?_⟩,hinv.nd.filter _,fun m' f h=>?_⟩
 ·rw [bh.set l,hinv.gq k];constructor
  ·rintro (h|⟨f,h⟩)
   ·exact .inl (.inr h)
   ·by_cases e:k=m
    ·exact .inl (.inl e)
    ·exact .inr ⟨f,by rw [List.mem_filter]; exact⟨h,by simpa using e⟩⟩
  ·rintro ((h|h)|⟨f,h⟩)
   ·exact .inr ⟨b,h▸hm⟩
   ·exact .inl h
   ·exact .inr ⟨f,(E k f h).1⟩
 ·by_cases e:o.dst=some t
  ·rw [if_pos e];rw [hd] at e;simp only [Option.some.injEq] at e;subst e;exact U
  ·rw [if_neg e];refine hinv.agree t fun m' f o' ab g=>?_;by_cases c:m'=m
   ·subst c; rw [q] at g; simp only [Option.some.injEq] at g; subst g; exact e
   ·exact ht m' f o' (by rw [List.mem_filter]; exact⟨ab,by simpa using c⟩) g
 ·rw [hv];refine⟨b, ?_,rfl⟩;rw [<- L,r.2.each.length]; simp
 ·have:=Dg c_ l q B hinv.closed s (·.wl) Hs G;rw [K] at this;exact this
 ·rw [bh.set l,<- Z p F hw];refine⟨fun c=>c.elim (fun e=>?_) id,.inr⟩;subst e; rw [aa] at hw; cases hw
 ·rw [P,<- L];refine⟨r.1,r.2.each.append (.cons ⟨cs,e,Q,hz j w,R⟩ .nil), ?_,fun f u g=>?_⟩
  ·rw [List.nodup_append];refine⟨r.2.nodup,by simp,fun x ad y M=>?_⟩;simp at M; subst M;intro c; subst c; exact I (.inl ad)
  ·rcases List.mem_append.1 u with h|h
   ·exact r.2.apart f h g
   ·simp at h; subst h;rcases g with h|h
    ·simp at h
    ·exact I (.inr h)
 ·rcases g with h|h
  ·rcases List.mem_append.1 h with h|h
   ·exact C.own f u (.inl h)
   ·simp at h; omega
  ·exact C.own f u (.inr h)
 ·obtain⟨h1,h2⟩:=E m' f h;obtain⟨g1,g2,g3⟩:=H m' f h1;refine⟨g1,g2,fun c=>?_⟩;rcases c with c|c
  ·rcases List.mem_append.1 c with c|c
   ·exact g3 (.inl c)
   ·simp at c;exact HA hinv.nd h1 hm h2 c
  ·exact g3 (.inr c)
 ·obtain⟨h1,h2⟩:=E m' f h;obtain⟨g1,g2,g0,g3⟩:=hinv.pP m' f h1;exact⟨fun c=>((bh.set l).1 c).elim h2 g1,g2,fun p F=>(bh.set l).2 (.inr (g0 p F)),g3⟩
include c_ hS in
theorem settle {j:J}{w:World}{a:Act}{bU:Array Bool}{C:Prop}:∀(N:Nat){aZ:Array Bool}{lim:List (Nat×Nat)}{tv:Nat->Value}{jl:List Nat},lim.length<=N->Inv ops S fx v n j0 w0 O0 bU aZ lim tv j w jl a ->
  (∀aZ lim tv jl,Inv ops S fx v n j0 w0 O0 bU aZ lim tv j w jl a->(∀m b,(m,b)∈lim->∃p,jd ops fx p m/\¬bh aZ p)->C)->C:=by
 intro N;induction N with
 | zero =>
  intro aZ lim tv jl hN hinv hC;have:lim=[]:=List.eq_nil_of_length_eq_zero (by omega);subst this;exact hC _ _ _ _ hinv fun m b h=>by simp at h
 | succ N g =>
  intro aZ lim tv jl hN hinv hC;by_cases c:∃m b,(m,b)∈lim/\∀p,jd ops fx p m->bh aZ p
  ·obtain⟨m,b,hm,f⟩:=c;obtain⟨k,h⟩:=Ny c_ hS hinv hm fun p h=>h.elim ((hinv.pP m b hm).2.2.1 p) (f p);refine g ?_ h hC;have:(lim.filter fun x=>x.1 != m).length<lim.length:=List.length_filter_lt_length_iff_exists.2 ⟨(m,b),hm,by simp⟩;omega
  ·refine hC _ _ _ _ hinv fun m b hm=>Classical.byContradiction fun c'=>c ⟨m,b,hm,fun p f=>Classical.byContradiction fun c2=>c' ⟨p,f,c2⟩⟩
theorem HB {bU aZ:Array Bool}{lim:List (Nat×Nat)}{tv:Nat->Value}{j:J}{w:World}{jl:List Nat}{a:Act}(hinv:Inv ops S fx v n j0 w0 O0 bU aZ lim tv j w jl a)
  (f:∀m b,(m,b)∈lim->∃p,jd ops fx p m/\¬bh aZ p){i:Nat}(g:∀p,ord ops p i->bh bU p):∀m b,(m,b)∈lim->ord ops m i->False:=by
 intro m;induction m using Nat.strongRecOn with
 | _ m k =>
  intro b hm l;obtain⟨p,q,hn⟩:=f m b hm;obtain⟨aJ,_,_,_,_,_,_,r⟩:=q;have h1:=r i l;rcases (hinv.gq p).1 (g p h1) with h|⟨s,h⟩
  ·exact hn h
  ·exact k p aJ s h h1
theorem Nz {bU aZ:Array Bool}{lim:List (Nat×Nat)}{tv:Nat->Value}{j:J}{w:World}{jl:List Nat}{a:Act}(hinv:Inv ops S fx v n j0 w0 O0 bU aZ lim tv j w jl a)
  (f:∀m b,(m,b)∈lim->∃p,jd ops fx p m/\¬bh aZ p) (ct:∀p,p<ops.size->bh bU p):lim=[]:=by
 have:∀m b,(m,b)∈lim->False:=by
  intro m;induction m using Nat.strongRecOn with
  | _ m g =>
   intro b hm;obtain⟨p,k,hn⟩:=f m b hm;obtain⟨aJ,_,oi,ok,l,_⟩:=k;rcases (hinv.gq p).1 (ct p (nB l)) with h|⟨q,h⟩
   ·exact hn h
   ·exact g p aJ q h
 cases lim with
 | nil=>rfl
 | cons x r=>exact(this x.1 x.2 (by simp)).elim
include aJ in
theorem HC {aZ:Array Bool}(j:aZ.size=ops.size) (h:Region.ready .any ops aZ=[]):∀p,p<ops.size->bh aZ p:=by
 intro p;induction p using Nat.strongRecOn with
 | _ p f =>
  intro b;rcases hr:aZ.getD p false with _|_
  ·have:p∈Region.ready .any ops aZ:=by
    simp only [Region.ready,List.mem_filter,List.mem_range,Bool.and_eq_true,Bool.not_eq_true'];refine⟨b, ?_, ?_⟩
    ·rw [Array.getD_eq_getD_getElem?,Array.getElem?_eq_getElem (by omega)] at hr ⊢
     simpa using hr
    ·rw [Array.getElem?_eq_getElem b];simp only [Option.map_some,Option.getD_some,Array.all_eq_true'];intro e he;cases g:Region.binds .any e with
     | false=>simp
     | true =>
      have hl:=aJ p _ (jo b) e (by simpa using he) g;have:=f e.on hl (by omega)
      simpa [bh] using this
   rw [h] at this; simp at this
  ·exact hr
include aJ c_ hS in
theorem HD {D:Nat->Prop}(hC:∀k o,¬D k->ops[k]?=some o->jc P ops n o (S k).ts (S k).ls (S k).h (fx k) (v k) (S (k+1)).ls (S (k+1)).h){Q:Exit->Act->World->Prop}(R:∀j w jl a,fS j w jl (S ops.size) a->bT j0 w0 O0 j w (aU j (S ops.size).h jl)->(S ops.size).n=n->Q .normal a w) (hn:∀k,k<=ops.size->(S k).n=n) :
  ∀(fuel:Nat) (bU aZ:Array Bool) (lim:List (Nat×Nat)) (tv:Nat->Value) (j:J) (w:World) (jl:List Nat) (a:Act),(∀k,D k->bh bU k)->((List.range ops.size).filter fun i=>!bU.getD i false).length<=fuel ->
   Inv ops S fx v n j0 w0 O0 bU aZ lim tv j w jl a->(∀m b,(m,b)∈lim->∃p,jd ops fx p m/\¬bh aZ p)->wpAny P .any ops Q fuel bU a w:=by
 have fin:∀(bU aZ:Array Bool) (lim:List (Nat×Nat)) (tv:Nat->Value) (j:J) (w:World) (jl:List Nat) (a:Act),Inv ops S fx v n j0 w0 O0 bU aZ lim tv j w jl a ->
   (∀m b,(m,b)∈lim->∃p,jd ops fx p m/\¬bh aZ p)->(∀p,p<ops.size->bh bU p)->Q .normal a w:=by
  intro bU aZ lim tv j w jl a hinv l K;have U:=Nz hinv l K;subst U;have ct:∀p,p<ops.size->bh aZ p:=fun p f=>((hinv.gq p).1 (K p f)).elim id fun⟨b,h⟩=>by simp at h
  obtain⟨kl,kh,W,X,Y,Z,aa,ab,_⟩:=hinv.st;have ad:(S kl).ls=(S ops.size).ls:=tW (fun k=>(S k).ls) (fun p=>(fx p).wl=true) (bh aZ) (fun k hk hn=>(hS k _ (jo hk)).2.2.2.1 (by simpa using hn)) W (Nat.le_refl _) Y
   fun p f _=>⟨fun _=>f,fun _=>ct p f⟩
  have L:(S kh).h=(S ops.size).h:=tW (fun k=>(S k).h) (fun p=>(fx p).wh=true) (bh aZ) (fun k hk hn=>(hS k _ (jo hk)).2.2.2.2.1 (by simpa using hn)) X (Nat.le_refl _) Z
   fun p f _=>⟨fun _=>f,fun _=>ct p f⟩
  refine R j w jl a ⟨hinv.defers,by rw [hn _ (Nat.le_refl _)]; exact hinv.rM,fun t=>?_,by rw [<- ad,<- L]; exact aa⟩ (by rw [<- L]; exact ab) (hn _ (Nat.le_refl _));obtain⟨k,hk,hw,hv⟩:=hinv.tm t;have:get (S k).ts t=get (S ops.size).ts t :=
   tW (fun k=>get (S k).ts t) (fun p=>∃o,ops[p]?=some o/\o.dst=some t) (bh aZ) (Df hS t) hk (Nat.le_refl _) (fun p _ ⟨op,h1,h2⟩=>hw p op h1 h2) fun p f _ =>
    ⟨fun _=>f,fun _=>ct p f⟩
  rw [<- this,hinv.agree t fun m b o h=>by simp at h]; exact hv
 intro fuel;induction fuel with
 | zero =>
  intro bU aZ lim tv j w jl a r ae hinv l;have ct:∀p,p<ops.size->bh bU p:=by
   intro p f;rcases hr:bU.getD p false with _|_
   ·have:p∈(List.range ops.size).filter fun i=>!bU.getD i false:=by simp only [List.mem_filter,List.mem_range]; exact⟨f,by rw [hr]; rfl⟩
    have:=List.length_pos_of_mem this; omega
   ·exact hr
  refine⟨?_,fin bU aZ lim tv j w jl a hinv l ct⟩;rw [List.eq_nil_iff_forall_not_mem];intro i hi;obtain⟨_,_,s,g,_⟩:=De hi hinv.jm;exact g (ct i s)
 | succ fuel M =>
  intro bU aZ lim tv j w jl a r ae hinv l;refine⟨fun hr=>fin bU aZ lim tv j w jl a hinv l (HC aJ hinv.jm hr),fun i hi=>?_⟩;obtain⟨o,u,s,g,z⟩:=De hi hinv.jm;have y:i<bU.size:=by rw [hinv.jm]; exact s
  have N:((List.range ops.size).filter fun p=>!(bU.setIfInBounds i true).getD p false).length<=fuel:=by
   have ai:((List.range ops.size).filter fun p=>!(bU.setIfInBounds i true).getD p false).length<((List.range ops.size).filter fun p=>!bU.getD p false).length:=by
    have af:((List.range ops.size).filter fun p=>!(bU.setIfInBounds i true).getD p false)=((List.range ops.size).filter fun p=>!bU.getD p false).filter (fun p=>p != i):=by
     rw [List.filter_filter];refine List.filter_congr fun p _=>?_;by_cases B:p=i
     ·subst B;have q:bh (bU.setIfInBounds p true) p:=(bh.set y).2 (.inl rfl);unfold bh at q;rw [q]; simp
     ·have q:bh (bU.setIfInBounds i true) p↔bh bU p:=by rw [bh.set y]; simp [B]
      unfold bh at q;rcases h1:(bU.setIfInBounds i true).getD p false with _|_<;>rcases h2:bU.getD p false with _|_<;>rw [h1,h2] at q<;>simp at q<;>simp [B]
    rw [af];refine List.length_filter_lt_length_iff_exists.2 ⟨i, ?_,by simp⟩;simp only [List.mem_filter,List.mem_range];refine⟨s, ?_⟩;unfold bh at g;simp at g ⊢; exact g
   omega
  have O:∀p,ord ops p i->bh bU p:=fun p f=>z_ aJ u hinv.k_ z f;have f:∀p,ord ops p i->bh aZ p:=fun p f=>((hinv.gq p).1 (O p f)).elim id fun⟨b,h⟩=>(HB hinv l O p b h f).elim;by_cases c:∀p,jd ops fx p i->bh aZ p
  ·refine Hy aJ c_ hS hinv u (hC i o (fun c=>g (r i c)) u) g z (fun p h=>h.elim (f p) (c p)) fun aj j' w' bp C E=>?_;exact settle c_ hS _ (Nat.le_refl _) E fun F G H I h1 h2=>M _ F G H j' w' I C (fun k c=>(bh.set y).2 (.inr (r k c))) N h1 h2
  ·have:(fx i).nu=true:=Classical.byContradiction fun c'=>c fun p f=>(c' f.2.1).elim;refine Hz aJ c_ hS hinv u g z f this fun w' C b E=>?_;exact settle c_ hS _ (Nat.le_refl _) E fun F G H I h1 h2=>M _ F G H j w' I C (fun k c=>(bh.set y).2 (.inr (r k c))) N h1 h2
end
theorem aH.wp {P:Program}(hm:P.follows .mixedOrders=true){id:Nat}{l:List Oper}{n:Nat}{Q:St->Prop}{σ:St}(hd:aH P l.toArray n l [] Q σ) (s:σ.n=n)
  {j:J}{w:World}{jl:List Nat}{a:Act}(g:fS j w jl σ a){Qc:Exit->Act->World->Prop}
  (hk:∀r j' w' bp q,Q r->fS j' w' bp r q->bT j w (aU j σ.h jl) j' w' (aU j' r.h bp)->Qc .normal q w'):(Code.region id l.toArray true).wp P Qc a w:=by
 obtain⟨S,fx,v,h0,h1,h2,y⟩:=hd;have u:=Dd (ops:=l.toArray) (fx:=fx) (by simpa using h2);have hS:∀k o,l.toArray[k]?=some o->_:=fun k o hk=>h1 k o (by simpa using hk);have hn:∀k,k<=l.toArray.size->(S k).n=n:=by
  intro k;induction k with
  | zero=>intro _; rw [h0,s]
  | succ k z=>intro hk; rw [(hS k _ (jo (by omega))).2.1]; exact z (by omega)
 refine wp_region_any hm ?_;refine HD (n:=n) (S:=S) (fx:=fx) (v:=v) (j0:=j) (w0:=w) (O0:=aU j σ.h jl) u.1 u.2 (fun k o h=>mg.w (hS k o h)) (D:=fun _=>False) (fun k o _ h=>(hS k o h).1) (fun j' w' bp q B he _=>hk (S l.toArray.size) j' w' bp q (by simpa using y) B he) hn _ _ (Array.replicate l.toArray.size false) [] (fun t=>a.tmps.getD t undef) j w.drew jl a (fun _ c=>c.elim) ?_ ?_ (fun m b h=>by simp at h)
 ·have:=List.length_filter_le (fun i=>!(Array.replicate l.toArray.size false).getD i false) (List.range l.toArray.size)
  simpa using this
 ·have f:∀p,¬bh (Array.replicate l.toArray.size false) p:=by
   intro p h;unfold bh at h;rw [Array.getD_eq_getD_getElem?,Array.getElem?_replicate] at h
   split at h<;>simp at h
  refine⟨by simp,by simp,fun i=>⟨fun h=>(f i h).elim,fun h=>h.elim (fun h=>(f i h).elim) fun⟨b,h⟩=>by simp at h⟩,fun k h=>(f k h).elim,fun k h=>(f k h).elim,g.defers,by rw [g.size,s],fun _ _=>rfl,
   fun t=>⟨0,Nat.zero_le _,fun p _ _ _=>⟨fun h=>(f p h).elim,fun h=>by omega⟩, ?_⟩,
   ⟨0,0,Nat.zero_le _,Nat.zero_le _,fun p _ _=>⟨fun h=>(f p h).elim,fun h=>by omega⟩,fun p _ _=>⟨fun h=>(f p h).elim,fun h=>by omega⟩, ?_, ?_,fun m b h=>by simp at h⟩,.nil,fun m b h=>by simp at h⟩
  ·rw [h0]; exact(g.tmps t).mono (bT.drew j w (aU j σ.h jl)).toLe (Ext.refl _)
  ·rw [h0]; exact g.hl.drew
  ·rw [h0]; exact bT.drew _ _ _
end Go.Ab
