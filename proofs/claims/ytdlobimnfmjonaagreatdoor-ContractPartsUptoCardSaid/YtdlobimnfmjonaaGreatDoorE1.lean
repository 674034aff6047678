import Derived.WalkKit
import Derived.Orders
import Derived.Laws.Rows
set_option maxRecDepth 100000
set_option maxHeartbeats 2000000
set_option linter.unusedVariables false
set_option linter.unusedSimpArgs false
/-
 The abstract reading of memory: plain data D,the ghost map J,when a Go value reads as a datum,and how a world may evolve. No program text.
-/
namespace Go.Ab
open Go Go.RowKit
inductive D where
 | bool (b:Bool)
 | int (k:IntKind) (n:Int)
 | str (s:List UInt8)
 | slice (k:Nat) (tok:Option Nat) (nil:Bool) (rows:List (List D))
 | arr (k id:Nat) (nl:Bool) (len:Nat)
 | iq (id m off:Nat)
 | fG
 | ptr (id off:Nat)
 | view (cells:List D)
 | uo
 | map (id:Nat)
 | nilFunc
 | func (f:FuncId) (cB:List D)
 | nD (f:FuncId) (bs:List D)
 | yield (l:Nat)
 | Az
 | nilIface
 | iface (t:TypeId) (x:D)
 deriving Inhabited
inductive A where
 | d (x:D)
 | agg (xs:List D)
 deriving Inhabited
inductive V where
 | any
 | a (x:A)
 | cW (i off:Nat)
 | cL (xs:List A)
 | gd (c:Bool) (x:A)
 | iI (c:Bool) (i off:Nat)
 | full (k:Nat) (rows:List (List D))
 | rV (c:Bool) (k:Nat) (rows:List (List D))
 deriving Inhabited
inductive Obj where
 | cells (xs:List D)
 | map (es:List (D×A))
 | tok (k m:Nat) (E:Option TypeId:=none)
 | arr (k:Nat) (rows:List (List D))
 | fix (b:Nat) (o:Go.Obj)
 | AA (T:TypeId) (xs:List D)
 | dW (b:Nat) (o:Go.Obj)
 | vK (K:List D->Prop) (V:A->Prop)
abbrev af:=Nat->Option Obj
def af.set (h:af) (i:Nat) (o:Option Obj):af:=fun n=>if n=i then o else h n
structure Tk where
 dI:Option (Nat×Nat)
 m:Nat
structure J where
 out:Nat->Nat
 F:Nat->Nat
 tok:Nat->Option Tk
 next:Nat
inductive aW {α β:Type}(R:α->β->Prop):List α->List β->Prop where
 | nil:aW R [] []
 | cons {a b l m} (h:R a b) (t:aW R l m):aW R (a::l) (b::m)
theorem aW.imp {α β:Type}{R S:α->β->Prop}(h:∀a b,R a b->S a b){l:List α}{m:List β}(hl:aW R l m):aW S l m:=by
 induction hl with
 | nil=>exact .nil
 | cons x _ f=>exact .cons (h _ _ x) f
theorem aW.length {α β:Type}{R:α->β->Prop}{l:List α}{m:List β}(h:aW R l m):l.length=m.length:=by
 induction h with
 | nil=>rfl
 | cons _ _ b=>simp [b]
theorem aW.get {α β:Type}{R:α->β->Prop}{l:List α}{m:List β}(h:aW R l m):∀{i:Nat}{x:α},l[i]?=some x->∃y,m[i]?=some y/\R x y:=by
 induction h with
 | nil=>intro i x hx; simp at hx
 | cons hh _ b =>
  intro i x hx;cases i with
  | zero=>simp at hx; subst hx; exact⟨_,rfl,hh⟩
  | succ i=>simp at hx; simpa using b hx
theorem aW.get' {α β:Type}{R:α->β->Prop}{l:List α}{m:List β}(h:aW R l m):∀{i:Nat}{y:β},m[i]?=some y->∃x,l[i]?=some x/\R x y:=by
 induction h with
 | nil=>intro i x hx; simp at hx
 | cons hh _ b =>
  intro i x hx;cases i with
  | zero=>simp at hx; subst hx; exact⟨_,rfl,hh⟩
  | succ i=>simp at hx; simpa using b hx
theorem aW.jV {α β:Type}{R:α->β->Prop}:∀{l:List α}{m:List β},l.length=m.length->(∀(i:Nat) x y,l[i]?=some x->m[i]?=some y->R x y)->aW R l m
 | [],[],_,_=>.nil
 | [],_::_,h,_=>by simp at h
 | _::_,[],h,_=>by simp at h
 | a::l,b::m,h,hr=>.cons (hr 0 a b rfl rfl) (aW.jV (by simpa using h) fun i x y hx f=>hr (i+1) x y (by simpa using hx) (by simpa using f))
theorem aW.append {α β:Type}{R:α->β->Prop}{l l':List α}{m m':List β}(h:aW R l m) (h':aW R l' m'):aW R (l++l') (m++m'):=by
 induction h with
 | nil=>exact h'
 | cons x _ b=>exact .cons x b
theorem aW.set {α β:Type}{R:α->β->Prop}{l:List α}{m:List β}(h:aW R l m){a:α}{b:β}(hr:R a b) (i:Nat):aW R (l.set i a) (m.set i b):=by
 induction h generalizing i with
 | nil=>exact .nil
 | cons x t f =>
  cases i with
  | zero=>exact .cons hr t
  | succ i=>exact .cons x (f i)
theorem aW.take {α β:Type}{R:α->β->Prop}{l:List α}{m:List β}(h:aW R l m) (n:Nat):aW R (l.take n) (m.take n):=by
 induction h generalizing n with
 | nil=>simp; exact .nil
 | cons x t b =>
  cases n with
  | zero=>exact .nil
  | succ n=>exact .cons x (b n)
theorem aW.drop {α β:Type}{R:α->β->Prop}{l:List α}{m:List β}(h:aW R l m) (n:Nat):aW R (l.drop n) (m.drop n):=by
 induction h generalizing n with
 | nil=>simp; exact .nil
 | cons x t b =>
  cases n with
  | zero=>exact .cons x t
  | succ n=>exact b n
def cA:Nat:=140737488355328
def fu:Nat:=4611686018427387904
def vL (j:J) (tok:Option Nat) (n:Nat) (a:Addr) (cap:Nat):Prop :=
 ∀t,tok=some t->t<j.next/\∀k,j.tok t=some k->n<=k.m/\(n=k.m->(k.dI=none/\cap=n)\/∃b,k.dI=some (b,cap)/\a=⟨b,0,none⟩)
def yq (j:J) (id:Nat) (nl:Bool) (len:Nat) (a:Option Addr) (cap:Nat):Prop :=
 ∀tk,j.tok id=some tk->len<=tk.m/\(len=tk.m->(tk.dI=none/\nl=a.isNone/\cap=0)\/∃b,tk.dI=some (b,cap)/\a=some ⟨b,0,none⟩/\nl=false)
def Uz (w:World) (b o:Nat) (v:Value):Prop:=w.frozen? ⟨b,o,none⟩=false\/∃n,v=.int .u8 n
def At (j:J) (w:World) (a:Addr) (n:Nat) (cv:Nat->Value):Prop :=
 a.spot=none/\∀i,i<n->a.off+i<j.F a.block/\w.cell? ⟨a.block,a.off+i,none⟩=some (cv i)/\Uz w a.block (a.off+i) (cv i)
def uq (j:J) (w:World) (a:Addr) (rows:List (List D)) (cv:Nat->Value):Prop :=
 (rows=[]\/a.spot=none)/\∀i,i<rows.flatten.length->a.off+i<j.F a.block/\w.cell? ⟨a.block,a.off+i,none⟩=some (cv i)/\Uz w a.block (a.off+i) (cv i)
inductive aD (j:J) (w:World):D->Value->Prop
 | bool (b:Bool):aD j w (.bool b) (.bool b)
 | int (k:IntKind) (n:Int):aD j w (.int k n) (.int k n)
 | str (s:List UInt8) (h:s.length<=fu):aD j w (.str s) (.string ⟨s.toArray⟩)
 | gD (k:Nat) (tok:Option Nat) (ht:∀t,tok=some t->t<j.next):aD j w (.slice k tok true []) (.slice none 0 0)
 | slice (k:Nat) (tok:Option Nat) (rows:List (List D)) (a:Addr) (cap:Nat) (cv:Nat->Value)
   (hk:∀r∈rows,r.length=k) (hn:rows.length<=cA) (hc:rows.length<=cap)
   (bQ:uq j w a rows cv) (hr:∀i (h:i<rows.flatten.length),aD j w rows.flatten[i] (cv i))
   (ht:vL j tok rows.length a cap):aD j w (.slice k tok false rows) (.slice (some a) rows.length cap)
 | arr (k id:Nat) (nl:Bool) (len:Nat) (a:Option Addr) (cap:Nat) (hid:id<j.next) (hv:yq j id nl len a cap):aD j w (.arr k id nl len) (.slice a len cap)
 | iq (id m off b:Nat) (hid:id<j.next) (hv:∀tk,j.tok id=some tk->m<=tk.m/\(m=tk.m->∃c,tk.dI=some (b,c))):aD j w (.iq id m off) (.pointer (some ⟨b,off,none⟩))
 | fG:aD j w .fG (.pointer none)
 | ptr (id off:Nat) (h:id<j.next):aD j w (.ptr id off) (.pointer (some ⟨j.out id,off,none⟩))
 | view (cells:List D) (a:Addr) (cv:Nat->Value) (bQ:At j w a cells.length cv) (hr:∀i (h:i<cells.length),aD j w cells[i] (cv i)) :
   aD j w (.view cells) (.pointer (some a))
 | uo:aD j w .uo (.map none)
 | map (id b:Nat) (hid:id<j.next) (hv:∀tk,j.tok id=some tk->1<=tk.m/\(tk.m=1->∃c,tk.dI=some (b,c))):aD j w (.map id) (.map (some b))
 | nilFunc:aD j w .nilFunc .nilFunc
 | func (f:FuncId) (cB:List D) (mi:List Value) (hl:cB.length=mi.length) (hr:∀i (h:i<cB.length) (h':i<mi.length),aD j w cB[i] mi[i]) :
   aD j w (.func f cB) (.func (.func f) #[] mi.toArray)
 | nD (f:FuncId) (bs:List D) (mj:List Value) (hl:bs.length=mj.length) (hr:∀i (h:i<bs.length) (h':i<mj.length),aD j w bs[i] mj[i]) :
   aD j w (.nD f bs) (.func (.func f) mj.toArray #[])
 | yield (l:Nat):aD j w (.yield l) (.func (.yield l) #[] #[])
 | Az (t:Fn) (b c:Array Value):aD j w .Az (.func t b c)
 | nilIface:aD j w .nilIface .nilIface
 | iface (t:TypeId) (x:D) (v:Value) (h:aD j w x v):aD j w (.iface t x) (.iface t v)
def di (j:J) (w:World):A->Value->Prop
 | .d x,v=>aD j w x v
 | .agg xs,v=>∃cs:List Value,v=.agg cs.toArray/\aW (aD j w) xs cs
def br (j:J) (w:World) (jl:List Nat):V->Value->Prop
 | .any,_=>True
 | .a x,v=>di j w x v
 | .cW i off,v=>∃b,jl[i]?=some b/\v=.pointer (some ⟨b,off,none⟩)
 | .cL xs,v=>∃cs:List Value,v=.tuple cs.toArray/\aW (di j w) xs cs
 | .gd c x,v=>(c=true->di j w x v)/\(c=false->v=.tuple #[])
 | .iI c i off,v=>(c=true->∃b,jl[i]?=some b/\v=.pointer (some ⟨b,off,none⟩))/\(c=false->v=.tuple #[])
 | .rV c k rows,v=>(c=true->aD j w (.slice k none false rows) v/\∃a,v=.slice (some a) rows.length rows.length)/\(c=false->v=.tuple #[])
 | .full k rows,v=>aD j w (.slice k none false rows) v/\∃a,v=.slice (some a) rows.length rows.length
structure Le (j:J) (w:World) (j':J) (w':World):Prop where
 next:j.next<=j'.next
 out:∀id,id<j.next->j'.out id=j.out id
 F:∀b,j.F b<=j'.F b
 data:∀b o,o<j.F b->w'.cell? ⟨b,o,none⟩=w.cell? ⟨b,o,none⟩
 tok:∀t,t<j.next->j'.tok t=j.tok t\/∃k k',j.tok t=some k/\j'.tok t=some k'/\k.m<k'.m
 AB:∀b o v,o<j.F b->w.cell? ⟨b,o,none⟩=some v->Uz w b o v->Uz w' b o v
theorem Le.refl (j:J) (w:World):Le j w j w:=⟨Nat.le_refl _,fun _ _=>rfl,fun _=>Nat.le_refl _,fun _ _ _=>rfl,fun _ _=>.inl rfl,fun _ _ _ _ _ h=>h⟩
theorem Le.trans {j l m:J}{w p q:World}(h:Le j w l p) (h':Le l p m q):Le j w m q:=by
 refine⟨Nat.le_trans h.next h'.next,fun id hi=>(h'.out id (Nat.lt_of_lt_of_le hi h.next)).trans (h.out id hi),fun b=>Nat.le_trans (h.F b) (h'.F b),
  fun b o g=>(h'.data b o (Nat.lt_of_lt_of_le g (h.F b))).trans (h.data b o g),fun t ht=>?_,fun b o v g hv hz=>h'.AB b o v (Nat.lt_of_lt_of_le g (h.F b)) ((h.data b o g).trans hv) (h.AB b o v g hv hz)⟩
 rcases h'.tok t (Nat.lt_of_lt_of_le ht h.next) with e|⟨k,k',e,r,bn⟩
 ·rw [e]; exact h.tok t ht
 ·rcases h.tok t ht with f|⟨u,y,f,f',s⟩
  ·exact .inr ⟨k,k',f▸e,r,bn⟩
  ·rw [f'] at e;simp only [Option.some.injEq] at e;subst e;exact .inr ⟨_,_,f,r,Nat.lt_trans s bn⟩
theorem vL.mono {j j':J}{w w':World}(hle:Le j w j' w'){tok:Option Nat}{n:Nat}{a:Addr}{cap:Nat}(h:vL j tok n a cap):vL j' tok n a cap:=by
 intro t ht;obtain⟨h1,b⟩:=h t ht;refine⟨Nat.lt_of_lt_of_le h1 hle.next,fun k hk=>?_⟩;rcases hle.tok t h1 with e|⟨g,k',e,f,bn⟩
 ·rw [e] at hk; exact b k hk
 ·rw [f] at hk;simp only [Option.some.injEq] at hk;subst hk;have:=(b _ e).1;exact⟨by omega,fun h=>by omega⟩
theorem yq.mono {j j':J}{w w':World}(hle:Le j w j' w'){id:Nat}{nl:Bool}{len:Nat}{a:Option Addr}{cap:Nat}(hid:id<j.next) (h:yq j id nl len a cap):yq j' id nl len a cap:=by
 intro tk hk;rcases hle.tok id hid with e|⟨f,k',e,b,bn⟩
 ·rw [e] at hk; exact h tk hk
 ·rw [b] at hk;simp only [Option.some.injEq] at hk;subst hk;have:=(h _ e).1;exact⟨by omega,fun h=>by omega⟩
theorem At.mono {j j':J}{w w':World}(hle:Le j w j' w'){a:Addr}{n:Nat}{cv:Nat->Value}(h:At j w a n cv):At j' w' a n cv :=
 ⟨h.1,fun i hi=>⟨Nat.lt_of_lt_of_le (h.2 i hi).1 (hle.F _),(hle.data _ _ (h.2 i hi).1).trans (h.2 i hi).2.1,hle.AB _ _ _ (h.2 i hi).1 (h.2 i hi).2.1 (h.2 i hi).2.2⟩⟩
theorem uq.mono {j j':J}{w w':World}(hle:Le j w j' w'){a:Addr}{rows:List (List D)}{cv:Nat->Value}(h:uq j w a rows cv):uq j' w' a rows cv :=
 ⟨h.1,fun i hi=>⟨Nat.lt_of_lt_of_le (h.2 i hi).1 (hle.F _),(hle.data _ _ (h.2 i hi).1).trans (h.2 i hi).2.1,hle.AB _ _ _ (h.2 i hi).1 (h.2 i hi).2.1 (h.2 i hi).2.2⟩⟩
theorem aD.mono {j j':J}{w w':World}(hle:Le j w j' w'){x:D}{v:Value}(h:aD j w x v):aD j' w' x v:=by
 induction h with
 | bool b=>exact .bool b
 | int k n=>exact .int k n
 | str s h=>exact .str s h
 | gD k tok ht=>exact .gD k tok fun t h=>Nat.lt_of_lt_of_le (ht t h) hle.next
 | slice k tok rows a cap cv hk hn hc bQ hr ht g=>exact .slice k tok rows a cap cv hk hn hc (bQ.mono hle) g (ht.mono hle)
 | arr k id nl len a cap hid hv=>exact .arr k id nl len a cap (Nat.lt_of_lt_of_le hid hle.next) (hv.mono hle hid)
 | iq id m off b hid hv =>
  refine .iq id m off b (Nat.lt_of_lt_of_le hid hle.next) fun tk hk=>?_;rcases hle.tok id hid with e|⟨q,k',e,p,bn⟩
  ·rw [e] at hk; exact hv tk hk
  ·rw [p] at hk;simp only [Option.some.injEq] at hk;subst hk;have:=(hv _ e).1;exact⟨by omega,fun h=>by omega⟩
 | fG=>exact .fG
 | ptr id off h =>
  rw [<- hle.out id h];exact .ptr id off (Nat.lt_of_lt_of_le h hle.next)
 | view cells a cv bQ hr g=>exact .view cells a cv (bQ.mono hle) g
 | uo=>exact .uo
 | map id b hid hv =>
  refine .map id b (Nat.lt_of_lt_of_le hid hle.next) fun tk hk=>?_;rcases hle.tok id hid with e|⟨q,k',e,p,bn⟩
  ·rw [e] at hk; exact hv tk hk
  ·rw [p] at hk;simp only [Option.some.injEq] at hk;subst hk;have:=(hv _ e).1;exact⟨by omega,fun h=>by omega⟩
 | nilFunc=>exact .nilFunc
 | func f cB mi hl hr g=>exact .func f cB mi hl g
 | nD f bs mj hl hr g=>exact .nD f bs mj hl g
 | yield l=>exact .yield l
 | Az t b c=>exact .Az t b c
 | nilIface=>exact .nilIface
 | iface t x v h g=>exact .iface t x v g
theorem di.mono {j j':J}{w w':World}(hle:Le j w j' w'){x:A}{v:Value}(h:di j w x v):di j' w' x v:=by
 cases x with
 | d x=>exact aD.mono hle h
 | agg xs=>obtain⟨cs,e,h⟩:=h; exact⟨cs,e,h.imp fun _ _ h=>h.mono hle⟩
def Ext (jl f:List Nat):Prop:=∀(i b:Nat),jl[i]?=some b->f[i]?=some b
theorem Ext.refl (jl:List Nat):Ext jl jl:=fun _ _ h=>h
theorem br.mono {j j':J}{w w':World}(hle:Le j w j' w'){jl g:List Nat}(hx:Ext jl g){x:V}{v:Value}(h:br j w jl x v):br j' w' g x v:=by
 cases x with
 | any=>trivial
 | a x=>exact di.mono hle h
 | cW i off=>obtain⟨b,f,e⟩:=h; exact⟨b,hx i b f,e⟩
 | cL xs=>obtain⟨cs,e,h⟩:=h; exact⟨cs,e,h.imp fun _ _ h=>h.mono hle⟩
 | gd c x=>exact⟨fun hc=>di.mono hle (h.1 hc),h.2⟩
 | iI c i off=>exact⟨fun hc=>let ⟨b,f,e⟩:=h.1 hc; ⟨b,hx i b f,e⟩,h.2⟩
 | full k rows=>exact⟨h.1.mono hle,h.2⟩
 | rV c k rows=>exact⟨fun hc=>⟨(h.1 hc).1.mono hle,(h.1 hc).2⟩,h.2⟩
def bH (j:J) (id:Nat):Obj->Option Nat
 | .tok _ _ _=>(j.tok id).bind fun k=>k.dI.map (·.1)
 | .arr _ _=>(j.tok id).bind fun k=>k.dI.map (·.1)
 | .map _=>(j.tok id).bind fun k=>k.dI.map (·.1)
 | .vK _ _=>(j.tok id).bind fun k=>k.dI.map (·.1)
 | .fix b _=>some b
 | .dW b _=>some b
 | _=>some (j.out id)
def lH (j:J) (w:World) (e:D×A) (m:MapEntry):Prop:=aD j w e.1 m.key/\di j w e.2 m.val
def nE (b:List MapEntry) (bD:Nat):Prop:=(b.map (·.born)).Nodup/\(∀m∈b,m.born<bD)/\(b.map (·.key)).Nodup
def iJ (j:J) (w:World) (id:Nat):Obj->Prop
 | .cells xs=>∃(cs:List Value) (e:TypeId),w.heap[j.out id]?=some (.cells cs.toArray e (0,0))/\aW (aD j w) xs cs/\j.F (j.out id)=0
 | .map es=>∃(b c:Nat) (f:List MapEntry) (bD:Nat),j.tok id=some ⟨some (b,c),1⟩/\w.heap[b]?=some (.map f.toArray bD)/\aW (lH j w) es f/\j.F b=0/\nE f bD
 | .AA T xs=>∃cs:List Value,w.heap[j.out id]?=some (.cells cs.toArray T (0,0))/\aW (aD j w) xs cs/\j.F (j.out id)=0
 | .tok k m E=>∃dI,j.tok id=some ⟨dI,m⟩/\(∀b cap,dI=some (b,cap)->∃(cs:Array Value) (e:TypeId),w.heap[b]?=some (.cells cs e (0,0))/\cs.size=cap*k/\j.F b=m*k/\m<=cap/\∀T,E=some T->e=T)/\(E.isSome=true->dI=none->m=0)
 | .vK K V=>∃(b c:Nat) (f:List MapEntry) (bD:Nat),j.tok id=some ⟨some (b,c),1⟩/\w.heap[b]?=some (.map f.toArray bD)/\(∀m∈f,(∃xs,K xs/\di j w (.agg xs) m.key)/\∃v,V v/\di j w v m.val)/\j.F b=0
 | .fix b o=>w.heap[b]?=some o
 | .dW b o=>∃c,j.tok id=some ⟨some (b,c),1⟩/\w.heap[b]?=some o/\j.F b=0
 | .arr k rows=>∃dI,j.tok id=some ⟨dI,rows.length⟩/\(dI=none↔rows=[])/\(∀r∈rows,r.length=k)/\rows.length<=cA/\∀b cap,dI=some (b,cap) ->
   ∃(cs:List Value) (e:TypeId),w.heap[b]?=some (.cells cs.toArray e (0,0))/\cs.length=cap*k/\j.F b=0/\rows.length<=cap/\aW (aD j w) rows.flatten (cs.take (rows.length*k))
def Obj.tokd:Obj->Bool
 | .tok _ _ _=>true
 | .arr _ _=>true
 | .map _=>true
 | .vK _ _=>true
 | .fix _ _=>true
 | .dW _ _=>true
 | _=>false
def aV (j:J) (h:af) (jl:List Nat) (b:Nat):Prop:=b∈jl\/∃id o,h id=some o/\bH j id o=some b
structure fo (j:J) (w:World) (h:af):Prop where
 obj:∀id o,h id=some o->id<j.next/\iJ j w id o
 inj:∀jv o1 jw o2 b,h jv=some o1->h jw=some o2->bH j jv o1=some b->bH j jw o2=some b->jv=jw
 fresh:∀b,w.heap.size<=b->j.F b=0
def jW (j:J) (w:World) (b:Nat) (xs:List D):Prop:=∃(cs:List Value) (e:TypeId),w.heap[b]?=some (.cells cs.toArray e (0,0))/\aW (aD j w) xs cs/\j.F b=0
structure NT (j:J) (w:World) (h:af) (ls:List (List D)) (jl:List Nat):Prop where
 each:aW (fun xs b=>jW j w b xs) ls jl
 nodup:jl.Nodup
 apart:∀b,b∈jl->¬aV j h [] b
class bS where
 NU:Prop
abbrev bS.on:bS:=⟨True⟩
abbrev bS.off:bS:=⟨False⟩
variable {au:bS}
def fZ [bS] (w w':World):Prop:=w'.output=w.output/\(w.drawn<=w'.drawn\/bS.NU)
theorem fZ.rfl {w w':World}(h1:w'.output=w.output:=by first|rfl|simp) (b:w.drawn<=w'.drawn:=by first|exact Nat.le_refl _|exact Nat.le_succ _|simp):fZ w w':=⟨h1,.inl b⟩
theorem fZ.trans {w f g:World}(h':fZ f g) (h:fZ w f):fZ w g:=⟨h'.1.trans h.1,h.2.elim (fun a=>h'.2.elim (fun b=>.inl (Nat.le_trans a b)) .inr) .inr⟩
structure bN [bS] (j:J) (w:World) (O:Nat->Prop) (j':J) (w':World) (O':Nat->Prop):Prop extends Le j w j' w' where
 size:w.heap.size<=w'.heap.size
 frame:∀b,b<w.heap.size->¬O b->w'.heap[b]?=w.heap[b]?/\j'.F b=j.F b
 own:∀b,b<w.heap.size->O' b->O b
 os:w'.os=w.os
 tape:w'.tape=w.tape
 output:fZ w w'
theorem bN.refl (j:J) (w:World) (O:Nat->Prop):bN j w O j w O :=
 ⟨Le.refl _ _,Nat.le_refl _,fun _ _ _=>⟨rfl,rfl⟩,fun _ _ h=>h,rfl,rfl,fZ.rfl⟩
theorem bN.trans {j k l:J}{w m p:World}{O q O2:Nat->Prop}(h:bN j w O k m q) (h':bN k m q l p O2):bN j w O l p O2:=by
 refine⟨h.toLe.trans h'.toLe,Nat.le_trans h.size h'.size,fun b f g=>?_,fun b f g=>h.own b f (h'.own b (Nat.lt_of_lt_of_le f h.size) g),h'.os.trans h.os,h'.tape.trans h.tape,h'.output.trans h.output⟩;have h1:=h.frame b f g;have r:=h'.frame b (Nat.lt_of_lt_of_le f h.size) (fun s=>g (h.own b f s));exact⟨r.1.trans h1.1,r.2.trans h1.2⟩
theorem bN.drew (j:J) (w:World) (O:Nat->Prop):bN j w O j w.drew O :=
 ⟨⟨Nat.le_refl _,fun _ _=>rfl,fun _=>Nat.le_refl _,fun _ _ _=>rfl,fun _ _=>.inl rfl,fun _ _ _ _ _ h=>h⟩,Nat.le_refl _,fun _ _ _=>⟨rfl,rfl⟩,fun _ _ h=>h,rfl,rfl,fZ.rfl⟩
theorem bN.drop {j j':J}{w w':World}{O O' f:Nat->Prop}(h:bN j w O j' w' O') (g:∀b,f b->O' b):bN j w O j' w' f :=
 { h with own:=fun b k h'=>h.own b k (g b h') }
def V.under (c:Bool):V->V
 | .a x=>.gd c x
 | .cW i off=>.iI c i off
 | .full k rows=>.rV c k rows
 | _=>.any
theorem V.GP {j:J}{w:World}{jl:List Nat}{x:V}{v:Value}(h:br j w jl x v):br j w jl (x.under true) v:=by
 cases x with
 | a x=>exact⟨fun _=>h,fun e=>by cases e⟩
 | cW i off=>exact⟨fun _=>h,fun e=>by cases e⟩
 | full k rows=>exact⟨fun _=>h,fun e=>by cases e⟩
 | _=>trivial
theorem V.GQ {j:J}{w:World}{jl:List Nat}(x:V):br j w jl (x.under false) (.tuple #[]):=by
 cases x with
 | a x=>exact⟨(fun e=>by cases e),fun _=>rfl⟩
 | cW i off=>exact⟨(fun e=>by cases e),fun _=>rfl⟩
 | full k rows=>exact⟨(fun e=>by cases e),fun _=>rfl⟩
 | _=>trivial
end Go.Ab
/-
 How the steps of the model change the abstract state: a new block of data,a new object,a new local,a store,an append.
-/
namespace Go.Ab
open Go Go.RowKit
variable {au:bS}
def HL (j:J) (w:World) (jl:List Nat) (ls:List (List D)) (h:af):Prop:=fo j w h/\NT j w h ls jl
theorem jJ {w:World}{b:Nat}{o:Go.Obj}(h:w.heap[b]?=some o):b<w.heap.size:=by
 rcases Nat.lt_or_ge b w.heap.size with h'|h'
 ·exact h'
 ·rw [Array.getElem?_eq_none h'] at h; simp at h
theorem iJ.NV {j:J}{w:World}{id:Nat}{o:Obj}(h:iJ j w id o){b:Nat}(f:bH j id o=some b):b<w.heap.size:=by
 cases o with
 | cells xs=>obtain⟨cs,e,hh,_⟩:=h; simp only [bH,Option.some.injEq] at f; subst f; exact jJ hh
 | AA T xs=>obtain⟨cs,hh,_⟩:=h; simp only [bH,Option.some.injEq] at f; subst f; exact jJ hh
 | fix b' o=>simp only [bH,Option.some.injEq] at f; subst f; exact jJ h
 | dW b' o=>obtain⟨c,_,hh,_⟩:=h; simp only [bH,Option.some.injEq] at f; subst f; exact jJ hh
 | map es =>
  obtain⟨b',c,l,bD,ht,hh,_⟩:=h;simp only [bH,ht,Option.bind_some,Option.map_some,Option.some.injEq] at f;subst f; exact jJ hh
 | vK K V =>
  obtain⟨b',c,l,bD,ht,hh,_⟩:=h;simp only [bH,ht,Option.bind_some,Option.map_some,Option.some.injEq] at f;subst f; exact jJ hh
 | tok k m E =>
  obtain⟨dI,ht,hh,_⟩:=h;simp only [bH,ht,Option.bind_some] at f;cases dI with
  | none=>simp at f
  | some g =>
   obtain⟨b',cap⟩:=g;simp only [Option.map_some,Option.some.injEq] at f;subst f;obtain⟨cs,e,hh,_⟩:=hh _ _ rfl;exact jJ hh
 | arr k rows =>
  obtain⟨dI,ht,_,_,_,hh⟩:=h;simp only [bH,ht,Option.bind_some] at f;cases dI with
  | none=>simp at f
  | some g =>
   obtain⟨b',cap⟩:=g;simp only [Option.map_some,Option.some.injEq] at f;subst f;obtain⟨cs,e,hh,_⟩:=hh _ _ rfl;exact jJ hh
theorem aV.lt {j:J}{w:World}{jl:List Nat}{ls:List (List D)}{h:af}(hl:HL j w jl ls h){b:Nat}(f:aV j h jl b):b<w.heap.size:=by
 rcases f with hm|⟨id,o,hi,g⟩
 ·obtain⟨i,hi⟩:=List.getElem?_of_mem hm;obtain⟨xs,_,cs,e,hh,_⟩:=hl.2.each.get' hi;exact jJ hh
 ·exact(hl.1.obj id o hi).2.NV g
theorem lH.mono {j j':J}{w w':World}(hle:Le j w j' w'){e:D×A}{m:MapEntry}(h:lH j w e m):lH j' w' e m:=⟨h.1.mono hle,h.2.mono hle⟩
theorem iJ.keep {j j':J}{w w':World}(hle:Le j w j' w'){id:Nat}{o:Obj}(hid:id<j.next) (h:iJ j w id o)
  (q:∀b,bH j id o=some b->w'.heap[b]?=w.heap[b]?/\j'.F b=j.F b) (ht:o.tokd=true->j'.tok id=j.tok id):iJ j' w' id o/\bH j' id o=bH j id o:=by
 cases o with
 | cells xs =>
  obtain⟨cs,e,hh,hx,p⟩:=h;obtain⟨f,g⟩:=q _ rfl;have r:=hle.out id hid;exact⟨⟨cs,e,by rw [r,f]; exact hh,hx.imp fun _ _ h=>h.mono hle,by rw [r,g]; exact p⟩,by simp [bH,r]⟩
 | AA T xs =>
  obtain⟨cs,hh,hx,p⟩:=h;obtain⟨f,g⟩:=q _ rfl;have r:=hle.out id hid;exact⟨⟨cs,by rw [r,f]; exact hh,hx.imp fun _ _ h=>h.mono hle,by rw [r,g]; exact p⟩,by simp [bH,r]⟩
 | fix b o =>
  obtain⟨f,_⟩:=q b rfl;exact⟨f.trans h,rfl⟩
 | dW b o =>
  obtain⟨c,s,hh,p⟩:=h;have l:=ht rfl;obtain⟨f,g⟩:=q b rfl;exact⟨⟨c,by rw [l]; exact s,f.trans hh,by rw [g]; exact p⟩,rfl⟩
 | map es =>
  obtain⟨b,c,B,bD,s,hh,hx,p,hB⟩:=h;have l:=ht rfl;obtain⟨f,g⟩:=q b (by simp [bH,s]);exact⟨⟨b,c,B,bD,by rw [l]; exact s,by rw [f]; exact hh,hx.imp fun _ _ h=>h.mono hle,by rw [g]; exact p,hB⟩,by simp [bH,l]⟩
 | vK K V =>
  obtain⟨b,c,B,bD,s,hh,hx,p⟩:=h;have l:=ht rfl;obtain⟨f,g⟩:=q b (by simp [bH,s]);exact⟨⟨b,c,B,bD,by rw [l]; exact s,by rw [f]; exact hh,fun m hm=>let ⟨⟨xs,h1,t⟩,v,u,y⟩:=hx m hm; ⟨⟨xs,h1,t.mono hle⟩,v,u,y.mono hle⟩,by rw [g]; exact p⟩,by simp [bH,l]⟩
 | tok k m E =>
  obtain⟨dI,e,hh,G⟩:=h;have l:=ht rfl;refine⟨⟨dI,by rw [l]; exact e,fun b cap z=>?_,G⟩,by simp [bH,l]⟩;obtain⟨cs,ty,h1,t,u,y,C⟩:=hh b cap z;obtain⟨f,g⟩:=q b (by simp [bH,e,z]);exact⟨cs,ty,by rw [f]; exact h1,t,by rw [g]; exact u,y,C⟩
 | arr k rows =>
  obtain⟨dI,e,g2,g3,g4,hh⟩:=h;have l:=ht rfl;refine⟨⟨dI,by rw [l]; exact e,g2,g3,g4,fun b cap z=>?_⟩,by simp [bH,l]⟩;obtain⟨cs,ty,h1,t,u,y,C⟩:=hh b cap z;obtain⟨f,g⟩:=q b (by simp [bH,e,z]);exact⟨cs,ty,by rw [f]; exact h1,t,by rw [g]; exact u,y,C.imp fun _ _ h=>h.mono hle⟩
theorem jW.keep {j j':J}{w w':World}(hle:Le j w j' w'){b:Nat}{xs:List D}(h:jW j w b xs) (f:w'.heap[b]?=w.heap[b]?/\j'.F b=j.F b):jW j' w' b xs:=by
 obtain⟨cs,e,hh,hx,g⟩:=h;exact⟨cs,e,by rw [f.1]; exact hh,hx.imp fun _ _ h=>h.mono hle,by rw [f.2]; exact g⟩
theorem qh {α β:Type}{R S:α->β->Prop}{l:List α}{m:List β}(hl:aW R l m) (h:∀a b,b∈m->R a b->S a b):aW S l m:=by
 induction hl with
 | nil=>exact .nil
 | cons x _ f=>exact .cons (h _ _ (by simp) x) (f fun a b g=>h a b (by simp [g]))
theorem HL.keep {j j':J}{w w':World}{jl:List Nat}{ls:List (List D)}{h:af}(hl:HL j w jl ls h) (hle:Le j w j' w')
  (f:∀b,aV j h jl b->w'.heap[b]?=w.heap[b]?/\j'.F b=j.F b) (ht:∀id,id<j.next->(∃o,h id=some o/\o.tokd=true)->j'.tok id=j.tok id)
  (l:∀b,w'.heap.size<=b->j'.F b=0):HL j' w' jl ls h/\∀b,aV j' h jl b↔aV j h jl b:=by
 have key:∀id o,h id=some o->iJ j' w' id o/\bH j' id o=bH j id o:=fun id o hi =>
  (hl.1.obj id o hi).2.keep hle (hl.1.obj id o hi).1 (fun b e=>f b (.inr ⟨id,o,hi,e⟩)) (fun e=>ht id (hl.1.obj id o hi).1 ⟨o,hi,e⟩)
 have g:∀jl b,aV j' h jl b↔aV j h jl b:=by
  intro jl b;constructor
  ·rintro (hm|⟨id,o,hi,e⟩)
   ·exact .inl hm
   ·exact .inr ⟨id,o,hi,(key id o hi).2▸e⟩
  ·rintro (hm|⟨id,o,hi,e⟩)
   ·exact .inl hm
   ·exact .inr ⟨id,o,hi,(key id o hi).2.symm▸e⟩
 refine⟨⟨⟨fun id o hi=>⟨Nat.lt_of_lt_of_le (hl.1.obj id o hi).1 hle.next,(key id o hi).1⟩,fun jv o1 jw o2 b h1 k m p=>?_,l⟩,
  ⟨qh hl.2.each fun xs b hm h=>h.keep hle (f b (.inl hm)),hl.2.nodup,fun b hm q=>hl.2.apart b hm ((g [] b).1 q)⟩⟩,g jl⟩
 exact hl.1.inj jv o1 jw o2 b h1 k ((key jv o1 h1).2▸m) ((key jw o2 k).2▸p)
theorem HL.drew {j:J}{w:World}{jl:List Nat}{ls:List (List D)}{h:af}(hl:HL j w jl ls h):HL j w.drew jl ls h :=
 (hl.keep (@bN.toLe bS.off _ _ _ _ _ _ (@bN.drew bS.off j w (aV j h jl))) (fun _ _=>⟨rfl,rfl⟩) (fun _ _ _=>rfl) hl.1.fresh).1
theorem rW {w:World}{o:Go.Obj}{b:Nat}(h:b<w.heap.size):(w.alloc o).heap[b]?=w.heap[b]?:=by
 show (w.heap.push o)[b]?=_;rw [Array.getElem?_push,if_neg (by omega)]
def J.eC (j:J) (b n:Nat):J:={ j with F:=fun x=>if x=b then n else j.F x }
theorem NW {w w':World}{b o:Nat}(h:w'.heap[b]?=w.heap[b]?):w'.frozen? ⟨b,o,none⟩=w.frozen? ⟨b,o,none⟩:=by simp [World.frozen?,h]
theorem Uz.same {w w':World}{b o:Nat}{v:Value}(h:w'.heap[b]?=w.heap[b]?) (hz:Uz w b o v):Uz w' b o v:=by unfold Uz; rw [NW h]; exact hz
theorem Uz.cells {w:World}{b o:Nat}{v:Value}{c:Array Value}{e:TypeId}(h:w.heap[b]?=some (.cells c e (0,0))):Uz w b o v:=.inl (by simp [World.frozen?,h])
theorem AD {j:J}{w w':World}(f:∀b,w.heap.size<=b->j.F b=0) (g:∀b,b<w.heap.size->0<j.F b->w'.heap[b]?=w.heap[b]?):∀b o v,o<j.F b->w.cell? ⟨b,o,none⟩=some v->Uz w b o v->Uz w' b o v:=fun b o v k _ hz =>
 hz.same (g b (by
  rcases Nat.lt_or_ge b w.heap.size with h1|h1
  ·exact h1
  ·rw [f b h1] at k; omega) (by omega))
theorem Le.alloc {j:J}{w:World}{o:Go.Obj}(f:∀b,w.heap.size<=b->j.F b=0) (n:Nat):Le j w (j.eC w.heap.size n) (w.alloc o):=by
 refine⟨Nat.le_refl _,fun _ _=>rfl,fun b=>?_,fun b o' k=>?_,fun _ _=>.inl rfl,AD f fun b g _=>rW g⟩
 ·simp only [J.eC]
  split
  ·rename_i e; rw [f b (by omega)]; exact Nat.zero_le _
  ·exact Nat.le_refl _
 ·have g:b<w.heap.size:=by
   rcases Nat.lt_or_ge b w.heap.size with h|h
   ·exact h
   ·rw [f b h] at k; omega
  exact World.cell?_alloc_lt w _ _ g
theorem HL.data {j:J}{w:World}{jl:List Nat}{ls:List (List D)}{h:af}(hl:HL j w jl ls h) (o:Go.Obj) (n:Nat) :
  HL (j.eC w.heap.size n) (w.alloc o) jl ls h/\bN j w (aV j h jl) (j.eC w.heap.size n) (w.alloc o) (aV (j.eC w.heap.size n) h jl):=by
 have hle:=Le.alloc (o:=o) hl.1.fresh n;have h1:∀b,b<w.heap.size->(w.alloc o).heap[b]?=w.heap[b]?/\(j.eC w.heap.size n).F b=j.F b:=fun b f =>
  ⟨rW f,by simp only [J.eC]; rw [if_neg (by omega)]⟩
 have hk:=hl.keep hle (fun b g=>h1 b (g.lt hl)) (fun _ _ _=>rfl) (fun b f=>by
  simp only [World.size_alloc] at f;simp only [J.eC]; rw [if_neg (by omega)]; exact hl.1.fresh b (by omega))
 exact⟨hk.1,{ toLe:=hle,size:=by simp,frame:=fun b f _=>h1 b f,own:=fun b _ g=>(hk.2 b).1 g,os:=rfl,tape:=rfl,output:=fZ.rfl }⟩
theorem J.yt {j:J}{b:Nat}(h:j.F b=0):j.eC b 0=j:=by
 unfold J.eC;have:(fun x=>if x=b then 0 else j.F x)=j.F:=by
  funext x; split
  ·rename_i e; rw [e,h]
  ·rfl
 rw [this]
theorem HL.loc {j:J}{w:World}{jl:List Nat}{ls:List (List D)}{h:af}(hl:HL j w jl ls h) (cs:List Value) (e:TypeId) (xs:List D) (hx:aW (aD j w) xs cs) :
  HL j (w.alloc (.cells cs.toArray e)) (jl++[w.heap.size]) (ls++[xs]) h/\bN j w (aV j h jl) j (w.alloc (.cells cs.toArray e)) (aV j h (jl++[w.heap.size])):=by
 have k:=hl.data (au:=au) (.cells cs.toArray e) 0;rw [J.yt (hl.1.fresh _ (Nat.le_refl _))] at k;obtain⟨hk,l⟩:=k;have m:∀b,b∈jl->b<w.heap.size:=fun b g=>(aV.lt hl (.inl g));refine⟨⟨hk.1,⟨hk.2.each.append (.cons ⟨cs,e,heap_alloc_new w _,hx.imp fun _ _ h=>h.mono l.toLe,hl.1.fresh _ (Nat.le_refl _)⟩ .nil), ?_,fun b g f=>?_⟩⟩, ?_⟩
 ·rw [List.nodup_append];refine⟨hk.2.nodup,by simp,fun a p b g=>?_⟩;simp at g; subst g;have:=m a p; omega
 ·rcases List.mem_append.1 g with g|g
  ·exact hk.2.apart b g f
  ·simp at g; subst g;have:w.heap.size<w.heap.size:=by
    rcases f with f|⟨id,o,hi,e⟩
    ·simp at f
    ·exact aV.lt hl (.inr ⟨id,o,hi,e⟩)
   omega
 ·refine { l with own:=fun b g f=>?_ };rcases f with f|f
  ·rcases List.mem_append.1 f with f|f
   ·exact .inl f
   ·simp at f; omega
  ·exact .inr f
def J.obj (j:J) (b:Nat):J:={ j with out:=fun x=>if x=j.next then b else j.out x,next:=j.next+1 }
theorem af.aT (h:af) (i:Nat) (o:Option Obj):h.set i o i=o:=by simp [af.set]
theorem af.aQ (h:af){i n:Nat}(o:Option Obj) (hn:n≠i):h.set i o n=h n:=by simp [af.set,hn]
theorem af.set_set (h:af) (i:Nat) (o o':Option Obj):(h.set i o).set i o'=h.set i o':=by
 funext n; simp only [af.set]; split<;>rfl
theorem af.NX (h:af) (i:Nat) (o:Option Obj) (hi:h i=none):(h.set i o).set i none=h:=by
 funext n; simp only [af.set]; split
 ·rename_i e; rw [e,hi]
 ·rfl
theorem af.kD (h:af) (i:Nat) (o:Option Obj) (hi:h i=o):h.set i o=h:=by
 funext n; simp only [af.set]; split
 ·rename_i e; rw [e,hi]
 ·rfl
theorem fo.mm {j:J}{w:World}{h:af}(hr:fo j w h){id:Nat}(hi:j.next<=id):h id=none:=by
 cases e:h id with
 | none=>rfl
 | some o=>have:=(hr.obj id o e).1; omega
theorem HL.obj {j:J}{w:World}{jl:List Nat}{ls:List (List D)}{h:af}(hl:HL j w jl ls h) (go:Go.Obj) (o:Obj) (p:o.tokd=false)
  (v:iJ (j.obj w.heap.size) (w.alloc go) j.next o) :
  HL (j.obj w.heap.size) (w.alloc go) jl ls (h.set j.next (some o)) /\
   bN j w (aV j h jl) (j.obj w.heap.size) (w.alloc go) (aV (j.obj w.heap.size) (h.set j.next (some o)) jl):=by
 have t:=hl.data (au:=au) go 0;rw [J.yt (hl.1.fresh _ (Nat.le_refl _))] at t;obtain⟨hk,u⟩:=t;have hle:Le j (w.alloc go) (j.obj w.heap.size) (w.alloc go) :=
  ⟨by simp [J.obj],fun id hi=>by simp only [J.obj]; rw [if_neg (by omega)],fun _=>Nat.le_refl _,fun _ _ _=>rfl,fun _ _=>.inl rfl,fun _ _ _ _ _ h=>h⟩
 have f:=hk.keep hle (fun _ _=>⟨rfl,rfl⟩) (fun _ _ _=>rfl) hk.1.fresh;have hblk:bH (j.obj w.heap.size) j.next o=some w.heap.size:=by
  cases o with
  | tok k m E=>simp [Obj.tokd] at p
  | arr k rows=>simp [Obj.tokd] at p
  | cells xs=>simp [bH,J.obj]
  | AA T xs=>simp [bH,J.obj]
  | map es=>simp [Obj.tokd] at p
  | vK K V=>simp [Obj.tokd] at p
  | dW b o=>simp [Obj.tokd] at p
  | fix b o=>simp [Obj.tokd] at p
 have hold:∀id o',h id=some o'->id≠j.next:=fun id o' hi e=>by
  rw [e,hl.1.mm (Nat.le_refl _)] at hi; simp at hi
 have bn:∀id o' b,h id=some o'->bH (j.obj w.heap.size) id o'=some b->b<w.heap.size:=fun id o' b hi e =>
  aV.lt hl ((f.2 b).1 (.inr ⟨id,o',hi,e⟩))
 refine⟨⟨⟨fun id o' hi=>?_,fun jv o1 jw o2 b h1 g r s=>?_,hk.1.fresh⟩,⟨f.1.2.each,f.1.2.nodup,fun b q l=>?_⟩⟩, ?_⟩
 ·by_cases e:id=j.next
  ·subst e; rw [af.aT] at hi; simp only [Option.some.injEq] at hi; subst hi;exact⟨by simp [J.obj],v⟩
  ·rw [af.aQ h _ e] at hi; exact f.1.1.obj id o' hi
 ·by_cases c1:jv=j.next<;>by_cases c2:jw=j.next
  ·omega
  ·subst c1; rw [af.aT] at h1; simp only [Option.some.injEq] at h1; subst h1;rw [af.aQ h _ c2] at g;rw [hblk] at r; simp only [Option.some.injEq] at r;have:=bn jw o2 b g s; omega
  ·subst c2; rw [af.aT] at g; simp only [Option.some.injEq] at g; subst g;rw [af.aQ h _ c1] at h1;rw [hblk] at s; simp only [Option.some.injEq] at s;have:=bn jv o1 b h1 r; omega
  ·rw [af.aQ h _ c1] at h1; rw [af.aQ h _ c2] at g;exact f.1.1.inj jv o1 jw o2 b h1 g r s
 ·rcases l with l|⟨id,o',hi,e⟩
  ·simp at l
  ·by_cases c:id=j.next
   ·subst c; rw [af.aT] at hi; simp only [Option.some.injEq] at hi; subst hi;rw [hblk] at e; simp only [Option.some.injEq] at e;have:=aV.lt hl (.inl q); omega
   ·rw [af.aQ h _ c] at hi;exact f.1.2.apart b q (.inr ⟨id,o',hi,e⟩)
 ·refine { toLe:=u.toLe.trans hle,size:=by simp,frame:=fun b q hn=>u.frame b q hn,own:=fun b q l=>?_,os:=rfl,tape:=rfl,output:=fZ.rfl };rcases l with l|⟨id,o',hi,e⟩
  ·exact .inl l
  ·by_cases c:id=j.next
   ·subst c; rw [af.aT] at hi; simp only [Option.some.injEq] at hi; subst hi;rw [hblk] at e; simp only [Option.some.injEq] at e; omega
   ·rw [af.aQ h _ c] at hi;exact(f.2 b).1 (.inr ⟨id,o',hi,e⟩)
end Go.Ab
/-
 Stores: into a local,into an object; slices that grow.
-/
namespace Go.Ab
open Go Go.RowKit
variable {au:bS}
structure gM [bS] (w w':World) (b:Nat) (o:Go.Obj):Prop where
 size:w'.heap.size=w.heap.size
 here:w'.heap[b]?=some o
 other:∀x,x≠b->w'.heap[x]?=w.heap[x]?
 os:w'.os=w.os
 tape:w'.tape=w.tape
 output:fZ w w'
theorem vM {w w':World}{b o:Nat}(h:w'.heap[b]?=w.heap[b]?):w'.cell? ⟨b,o,none⟩=w.cell? ⟨b,o,none⟩:=by simp [World.cell?,h]
theorem gM.le {j:J}{w w':World}{b:Nat}{o:Go.Obj}(hu:gM w w' b o) (f:j.F b=0):Le j w j w' :=
 ⟨Nat.le_refl _,fun _ _=>rfl,fun _=>Nat.le_refl _,fun x i hi=>vM (hu.other x fun e=>by rw [e,f] at hi; omega),fun _ _=>.inl rfl,fun x i v hi _ hz=>hz.same (hu.other x fun e=>by rw [e,f] at hi; omega)⟩
theorem NY {α β:Type}{R S:α->β->Prop}{l:List α}{m:List β}(hl:aW R l m) (p:m.Nodup){i:Nat}{y:β}(j:m[i]?=some y) (x:α) (hx:S x y)
  (h:∀a b,b∈m->b≠y->R a b->S a b):aW S (l.set i x) m:=by
 refine aW.jV (by simp [hl.length]) fun n a b f g=>?_;by_cases e:i=n
 ·subst e;rw [j] at g; simp only [Option.some.injEq] at g; subst g;rw [List.getElem?_set] at f;simp only [if_true] at f
  split at f
  ·simp only [Option.some.injEq] at f; subst f; exact hx
  ·simp at f
 ·rw [List.getElem?_set,if_neg e] at f;obtain⟨b',k,hr⟩:=hl.get f;rw [g] at k; simp only [Option.some.injEq] at k; subst k;refine h _ _ (List.mem_of_getElem? g) (fun q=>?_) hr;subst q;exact e ((List.getElem?_inj (List.getElem?_eq_some_iff.1 j).1 p).1 (j.trans g.symm))
theorem HL.NZ {j:J}{w w':World}{jl:List Nat}{ls:List (List D)}{h:af}(hl:HL j w jl ls h){i b:Nat}(g:jl[i]?=some b) (k:j.F b=0)
  {cs:List Value}{e:TypeId}(hu:gM w w' b (.cells cs.toArray e (0,0))){xs:List D}(hx:aW (aD j w) xs cs) :
  HL j w' jl (ls.set i xs) h/\bN j w (aV j h jl) j w' (aV j h jl):=by
 have hle:=hu.le (j:=j) k;have l:b∈jl:=List.mem_of_getElem? g;have m:∀x,aV j h [] x->x≠b:=fun x f e=>hl.2.apart b l (e▸f);have hr:fo j w' h/\∀x,aV j h [] x↔aV j h [] x:=by
  have h0:HL j w [] [] h:=⟨hl.1,⟨.nil,by simp,by simp⟩⟩;have:=h0.keep hle (fun x f=>⟨hu.other x (m x f),rfl⟩) (fun _ _ _=>rfl) (fun x hx=>hl.1.fresh x (by rw [hu.size] at hx; exact hx));exact⟨this.1.1,fun _=>Iff.rfl⟩
 refine⟨⟨hr.1,⟨NY hl.2.each hl.2.nodup g xs ⟨cs,e,hu.here,hx.imp fun _ _ h=>h.mono hle,k⟩ fun a y _ p h=>h.keep hle ⟨hu.other y p,rfl⟩,hl.2.nodup,hl.2.apart⟩⟩,
  { toLe:=hle,size:=by rw [hu.size]; exact Nat.le_refl _,frame:=fun x _ hn=>⟨hu.other x fun e=>hn (e▸.inl l),rfl⟩,own:=fun _ _ h=>h,os:=hu.os,tape:=hu.tape,output:=hu.output }⟩
theorem HL.setObj {j:J}{w w':World}{jl:List Nat}{ls:List (List D)}{h:af}(hl:HL j w jl ls h){id:Nat}{o o':Obj}{go:Go.Obj}{B:Nat}(hi:h id=some o)
  (b:bH j id o=some B) (g:bH j id o'=some B) (s:j.F B=0)
  (hu:gM w w' B go) (k:iJ j w' id o') :
  HL j w' jl ls (h.set id (some o'))/\bN j w (aV j h jl) j w' (aV j (h.set id (some o')) jl):=by
 have hle:=hu.le (j:=j) s;have l:∀jl x,aV j (h.set id (some o')) jl x↔aV j h jl x:=by
  intro jl x;constructor
  ·rintro (hm|⟨n,q,hn,e⟩)
   ·exact .inl hm
   ·by_cases c:n=id
    ·subst c; rw [af.aT] at hn; simp only [Option.some.injEq] at hn; subst hn;rw [g] at e; exact .inr ⟨_,o,hi,by rw [b]; exact e⟩
    ·rw [af.aQ h _ c] at hn; exact .inr ⟨n,q,hn,e⟩
  ·rintro (hm|⟨n,q,hn,e⟩)
   ·exact .inl hm
   ·by_cases c:n=id
    ·subst c; rw [hi] at hn; simp only [Option.some.injEq] at hn; subst hn;rw [b] at e; exact .inr ⟨_,o',af.aT _ _ _,by rw [g]; exact e⟩
    ·exact .inr ⟨n,q,by rw [af.aQ h _ c]; exact hn,e⟩
 have t:∀n q x,h n=some q->n≠id->bH j n q=some x->x≠B:=fun n q x hn u e c =>
  u (hl.1.inj n q id o x hn hi e (c▸b))
 have v:∀x,x∈jl->x≠B:=fun x hx c=>hl.2.apart x hx (.inr ⟨id,o,hi,c▸b⟩);refine⟨⟨⟨fun n q hn=>?_,fun m y p z x h1 C E G=>?_,fun x hx=>hl.1.fresh x (by rw [hu.size] at hx; exact hx)⟩,
  ⟨qh hl.2.each fun xs x hx h=>h.keep hle ⟨hu.other x (v x hx),rfl⟩,hl.2.nodup,fun x hx k=>hl.2.apart x hx ((l [] x).1 k)⟩⟩, ?_⟩
 ·by_cases c:n=id
  ·subst c; rw [af.aT] at hn; simp only [Option.some.injEq] at hn; subst hn;exact⟨(hl.1.obj _ o hi).1,k⟩
  ·rw [af.aQ h _ c] at hn;have:=hl.1.obj n q hn;exact⟨this.1,(this.2.keep hle this.1 (fun x e=>⟨hu.other x (t n q x hn c e),rfl⟩) (fun _=>rfl)).1⟩
 ·have f:∀n q,(h.set id (some o')) n=some q->∃r,h n=some r/\∀x,bH j n q=some x->bH j n r=some x:=by
   intro n q hn;by_cases c:n=id
   ·subst c; rw [af.aT] at hn; simp only [Option.some.injEq] at hn; subst hn;exact⟨o,hi,fun x e=>by rw [g] at e; rw [b]; exact e⟩
   ·rw [af.aQ h _ c] at hn; exact⟨q,hn,fun _ e=>e⟩
  obtain⟨H,g1,f1⟩:=f m y h1;obtain⟨I,g2,f2⟩:=f p z C;exact hl.1.inj m H p I x g1 g2 (f1 x E) (f2 x G)
 ·exact { toLe:=hle,size:=(by rw [hu.size]; exact Nat.le_refl _),frame:=(fun x _ hn=>⟨hu.other x (fun c=>hn (.inr ⟨id,o,hi,c▸b⟩)),rfl⟩),own:=(fun x _ h=>(l jl x).1 h),os:=hu.os,tape:=hu.tape,output:=hu.output }
theorem HL.forget {j:J}{w:World}{jl:List Nat}{ls:List (List D)}{h h':af}(hl:HL j w jl ls h) (b:∀id o,h' id=some o->h id=some o) :
  HL j w jl ls h'/\bN j w (aV j h jl) j w (aV j h' jl):=by
 have f:∀jl x,aV j h' jl x->aV j h jl x:=by
  rintro jl x (hm|⟨n,q,hn,e⟩)
  ·exact .inl hm
  ·exact .inr ⟨n,q,b n q hn,e⟩
 exact⟨⟨⟨fun id o hi=>hl.1.obj id o (b id o hi),fun g k l m x h1 p r s=>hl.1.inj g k l m x (b _ _ h1) (b _ _ p) r s,hl.1.fresh⟩,
  ⟨hl.2.each,hl.2.nodup,fun x hx t=>hl.2.apart x hx (f [] x t)⟩⟩,(bN.refl j w _).drop (f jl)⟩
theorem HL.trim {j:J}{w:World}{jl:List Nat}{ls:List (List D)}{h:af}(hl:HL j w jl ls h) (n:Nat) :
  HL j w (jl.take n) (ls.take n) h/\bN j w (aV j h jl) j w (aV j h (jl.take n)) :=
 ⟨⟨hl.1,⟨hl.2.each.take n,hl.2.nodup.sublist (List.take_sublist n jl),fun b f=>hl.2.apart b (List.mem_of_mem_take f)⟩⟩,
  (bN.refl j w _).drop fun _ g=>g.elim (fun x=>.inl (List.mem_of_mem_take x)) .inr⟩
def J.dX (j:J):J:={ j with tok:=fun x=>if x=j.next then some ⟨none,0⟩ else j.tok x,next:=j.next+1 }
theorem HL.dX {j:J}{w:World}{jl:List Nat}{ls:List (List D)}{h:af}(hl:HL j w jl ls h) (k:Nat) (E:Option TypeId:=none) :
  HL j.dX w jl ls (h.set j.next (some (.tok k 0 E)))/\bN j w (aV j h jl) j.dX w (aV j.dX (h.set j.next (some (.tok k 0 E))) jl):=by
 have hle:Le j w j.dX w:=⟨by simp [J.dX],fun _ _=>rfl,fun _=>Nat.le_refl _,fun _ _ _=>rfl,fun t ht=>.inl (by simp only [J.dX]; rw [if_neg (by omega)]),fun _ _ _ _ _ h=>h⟩;have hk:=hl.keep hle (fun _ _=>⟨rfl,rfl⟩) (fun id hid _=>by simp only [J.dX]; rw [if_neg (by omega)]) hl.1.fresh;have g:∀b,bH j.dX j.next (.tok k 0 E)≠some b:=by intro b; simp [bH,J.dX]
 have m:∀jl x,aV j.dX (h.set j.next (some (.tok k 0 E))) jl x->aV j.dX h jl x:=by
  rintro jl x (hm|⟨n,q,hn,e⟩)
  ·exact .inl hm
  ·by_cases c:n=j.next
   ·subst c; rw [af.aT] at hn; simp only [Option.some.injEq] at hn; subst hn;exact absurd e (g x)
   ·rw [af.aQ h _ c] at hn; exact .inr ⟨n,q,hn,e⟩
 refine⟨⟨⟨fun id o hi=>?_,fun p v r y x h1 f s u=>?_,hl.1.fresh⟩,⟨hk.1.2.each,hk.1.2.nodup,fun x hx l=>hk.1.2.apart x hx (m [] x l)⟩⟩,
  { (bN.refl j w (aV j h jl)) with toLe:=hle,frame:=fun _ _ _=>⟨rfl,rfl⟩,own:=fun b _ l=>(hk.2 b).1 (m jl b l) }⟩
 ·by_cases c:id=j.next
  ·subst c; rw [af.aT] at hi; simp only [Option.some.injEq] at hi; subst hi;exact⟨by simp [J.dX],none,by simp [J.dX],(by intro _ _ h; cases h),fun _ _=>rfl⟩
  ·rw [af.aQ h _ c] at hi; exact hk.1.1.obj id o hi
 ·by_cases c1:p=j.next
  ·subst c1; rw [af.aT] at h1; simp only [Option.some.injEq] at h1; subst h1;exact absurd s (g x)
  ·by_cases c2:r=j.next
   ·subst c2; rw [af.aT] at f; simp only [Option.some.injEq] at f; subst f;exact absurd u (g x)
   ·rw [af.aQ h _ c1] at h1; rw [af.aQ h _ c2] at f;exact hk.1.1.inj p v r y x h1 f s u
def J.cG (j:J) (t:Nat) (k:Tk) (b n:Nat):J:={ j with tok:=fun x=>if x=t then some k else j.tok x,F:=fun x=>if x=b then n else j.F x }
def J.iR (j:J) (m:Nat):J:={ j with tok:=fun x=>if x=j.next then some ⟨none,m⟩ else j.tok x,next:=j.next+1 }
theorem HL.iR {j:J}{w:World}{jl:List Nat}{ls:List (List D)}{h:af}(hl:HL j w jl ls h) (k m:Nat) :
  HL (j.iR m) w jl ls (h.set j.next (some (.tok k m)))/\bN j w (aV j h jl) (j.iR m) w (aV (j.iR m) (h.set j.next (some (.tok k m))) jl):=by
 have hle:Le j w (j.iR m) w:=⟨by simp [J.iR],fun _ _=>rfl,fun _=>Nat.le_refl _,fun _ _ _=>rfl,fun t ht=>.inl (by simp only [J.iR]; rw [if_neg (by omega)]),fun _ _ _ _ _ h=>h⟩;have hk:=hl.keep hle (fun _ _=>⟨rfl,rfl⟩) (fun id hid _=>by simp only [J.iR]; rw [if_neg (by omega)]) hl.1.fresh;have g:∀b,bH (j.iR m) j.next (.tok k m)≠some b:=by intro b; simp [bH,J.iR]
 have p:∀jl x,aV (j.iR m) (h.set j.next (some (.tok k m))) jl x->aV (j.iR m) h jl x:=by
  rintro jl x (hm|⟨n,q,hn,e⟩)
  ·exact .inl hm
  ·by_cases c:n=j.next
   ·subst c; rw [af.aT] at hn; simp only [Option.some.injEq] at hn; subst hn;exact absurd e (g x)
   ·rw [af.aQ h _ c] at hn; exact .inr ⟨n,q,hn,e⟩
 refine⟨⟨⟨fun id o hi=>?_,fun r y s z x h1 f u v=>?_,hl.1.fresh⟩,⟨hk.1.2.each,hk.1.2.nodup,fun x hx l=>hk.1.2.apart x hx (p [] x l)⟩⟩,
  { (bN.refl j w (aV j h jl)) with toLe:=hle,frame:=fun _ _ _=>⟨rfl,rfl⟩,own:=fun b _ l=>(hk.2 b).1 (p jl b l) }⟩
 ·by_cases c:id=j.next
  ·subst c; rw [af.aT] at hi; simp only [Option.some.injEq] at hi; subst hi;exact⟨by simp [J.iR],none,by simp [J.iR],(by intro _ _ h; cases h),fun h=>by cases h⟩
  ·rw [af.aQ h _ c] at hi; exact hk.1.1.obj id o hi
 ·by_cases c1:r=j.next
  ·subst c1; rw [af.aT] at h1; simp only [Option.some.injEq] at h1; subst h1;exact absurd u (g x)
  ·by_cases c2:s=j.next
   ·subst c2; rw [af.aT] at f; simp only [Option.some.injEq] at f; subst f;exact absurd v (g x)
   ·rw [af.aQ h _ c1] at h1; rw [af.aQ h _ c2] at f;exact hk.1.1.inj r y s z x h1 f u v
theorem HL.grow {j:J}{w w':World}{jl:List Nat}{ls:List (List D)}{h:af}(hl:HL j w jl ls h){t k m m':Nat}{E:Option TypeId}(ht:h t=some (.tok k m E)) (hm:m<m')
  {b cap:Nat}{cs:Array Value}{e:TypeId}(K:w'.heap[b]?=some (.cells cs e (0,0))) (Q:cs.size=cap*k) (R:m'<=cap)
  (s:∀x,x≠b->x<w.heap.size->w'.heap[x]?=w.heap[x]?) (S:w.heap.size<=w'.heap.size) (ah:w'.heap.size<=max w.heap.size (b+1))
  (p:w.heap.size<=b\/(bH j t (.tok k m E)=some b/\∀o,o<j.F b->w'.cell? ⟨b,o,none⟩=w.cell? ⟨b,o,none⟩))
  (U:w'.os=w.os) (W:w'.tape=w.tape) (X:fZ w w') (Y:∀T,E=some T->e=T:=by intro T h; cases h) :
  HL (j.cG t ⟨some (b,cap),m'⟩ b (m'*k)) w' jl ls (h.set t (some (.tok k m' E))) /\
   bN j w (aV j h jl) (j.cG t ⟨some (b,cap),m'⟩ b (m'*k)) w' (aV (j.cG t ⟨some (b,cap),m'⟩ b (m'*k)) (h.set t (some (.tok k m' E))) jl):=by
 obtain⟨Z,dI,N,hblk,_⟩:=hl.1.obj t _ ht;have aa:j.F b<=m'*k:=by
  rcases p with hc|⟨hc,_⟩
  ·rw [hl.1.fresh b hc]; exact Nat.zero_le _
  ·simp only [bH,N,Option.bind_some] at hc;cases dI with
   | none=>simp at hc
   | some ab =>
    obtain⟨b',ad⟩:=ab;simp only [Option.map_some,Option.some.injEq] at hc;subst hc;obtain⟨_,_,_,_,ae,_⟩:=hblk _ _ rfl;rw [ae]; exact Nat.mul_le_mul_right _ (Nat.le_of_lt hm)
 have hle:Le j w (j.cG t ⟨some (b,cap),m'⟩ b (m'*k)) w':=by
  refine⟨Nat.le_refl _,fun _ _=>rfl,fun x=>?_,fun x o f=>?_,fun x hx=>?_,fun x o v f _ hz=>by
   by_cases c:x=b
   ·subst c; exact .cells K
   ·refine hz.same (s x c ?_);rcases Nat.lt_or_ge x w.heap.size with h1|h1
    ·exact h1
    ·rw [hl.1.fresh x h1] at f; omega⟩
  ·simp only [J.cG]; split
   ·rename_i c; rw [c]; exact aa
   ·exact Nat.le_refl _
  ·by_cases c:x=b
   ·subst c;rcases p with hc|⟨_,hc⟩
    ·rw [hl.1.fresh x hc] at f; omega
    ·exact hc o f
   ·refine vM (s x c ?_);rcases Nat.lt_or_ge x w.heap.size with h1|h1
    ·exact h1
    ·rw [hl.1.fresh x h1] at f; omega
  ·by_cases c:x=t
   ·subst c; exact .inr ⟨_,⟨some (b,cap),m'⟩,N,by simp [J.cG],hm⟩
   ·exact .inl (by simp [J.cG,c])
 -- the others' blocks are not b
 have C:∀n q x,h n=some q->n≠t->bH j n q=some x->x≠b:=fun n q x hn l hx c=>by
  subst c;rcases p with hc|⟨hc,_⟩
  ·have:=aV.lt hl (.inr ⟨n,q,hn,hx⟩); omega
  ·exact l (hl.1.inj n q t _ x hn ht hx hc)
 have L:∀x,x∈jl->x≠b:=fun x hx c=>by
  subst c;rcases p with hc|⟨hc,_⟩
  ·have:=aV.lt hl (.inl hx); omega
  ·exact hl.2.apart x hx (.inr ⟨t,_,ht,hc⟩)
 have G:∀x,x≠b->(j.cG t ⟨some (b,cap),m'⟩ b (m'*k)).F x=j.F x:=fun x hx=>by simp [J.cG,hx]
 have r:∀n q,h n=some q->n≠t->iJ (j.cG t ⟨some (b,cap),m'⟩ b (m'*k)) w' n q/\bH (j.cG t ⟨some (b,cap),m'⟩ b (m'*k)) n q=bH j n q:=fun n q hn l =>
  (hl.1.obj n q hn).2.keep hle (hl.1.obj n q hn).1 (fun x hx=>⟨s x (C n q x hn l hx) (aV.lt hl (.inr ⟨n,q,hn,hx⟩)),G x (C n q x hn l hx)⟩)
   (fun _=>by simp [J.cG,l])
 have M:bH (j.cG t ⟨some (b,cap),m'⟩ b (m'*k)) t (.tok k m' E)=some b:=by simp [bH,J.cG]
 have O:∀jl x,aV (j.cG t ⟨some (b,cap),m'⟩ b (m'*k)) (h.set t (some (.tok k m' E))) jl x->x=b\/aV j h jl x:=by
  rintro jl x (hx|⟨n,q,hn,hx⟩)
  ·exact .inr (.inl hx)
  ·by_cases c:n=t
   ·subst c; rw [af.aT] at hn; simp only [Option.some.injEq] at hn; subst hn;rw [M] at hx; simp only [Option.some.injEq] at hx; exact .inl hx.symm
   ·rw [af.aQ h _ c] at hn;exact .inr (.inr ⟨n,q,hn,(r n q hn c).2▸hx⟩)
 refine⟨⟨⟨fun n q hn=>?_,fun u H y I x h1 g z B=>?_,fun x hx=>?_⟩,
  ⟨qh hl.2.each fun xs x hx h=>h.keep hle ⟨s x (L x hx) (aV.lt hl (.inl hx)),G x (L x hx)⟩,hl.2.nodup,fun x hx f=>?_⟩⟩, ?_⟩
 ·by_cases c:n=t
  ·subst c; rw [af.aT] at hn; simp only [Option.some.injEq] at hn; subst hn;refine⟨Z,some (b,cap),by simp [J.cG],fun b' ad P=>?_,fun _ h=>by cases h⟩;simp only [Option.some.injEq,Prod.mk.injEq] at P;obtain⟨rfl,rfl⟩:=P;exact⟨cs,e,K,Q,by simp [J.cG],R,Y⟩
  ·rw [af.aQ h _ c] at hn;exact⟨(hl.1.obj n q hn).1,(r n q hn c).1⟩
 ·by_cases c1:u=t<;>by_cases c2:y=t
  ·omega
  ·subst c1; rw [af.aT] at h1; simp only [Option.some.injEq] at h1; subst h1;rw [af.aQ h _ c2] at g;rw [M] at z; simp only [Option.some.injEq] at z;exact absurd z.symm (C y I x g c2 ((r y I g c2).2▸B))
  ·subst c2; rw [af.aT] at g; simp only [Option.some.injEq] at g; subst g;rw [af.aQ h _ c1] at h1;rw [M] at B; simp only [Option.some.injEq] at B;exact absurd B.symm (C u H x h1 c1 ((r u H h1 c1).2▸z))
  ·rw [af.aQ h _ c1] at h1; rw [af.aQ h _ c2] at g;exact hl.1.inj u H y I x h1 g ((r u H h1 c1).2▸z) ((r y I g c2).2▸B)
 ·have ai:=jJ K;rw [G x (by omega)];exact hl.1.fresh x (by omega)
 ·rcases O [] x f with c|c
  ·exact L x hx c
  ·exact hl.2.apart x hx c
 ·refine { toLe:=hle,size:=S,frame:=fun x hx hn=>?_,own:=fun x hx f=>?_,os:=U,tape:=W,output:=X }
  ·have l:x≠b:=fun c=>by
    subst c;rcases p with hc|⟨hc,_⟩
    ·omega
    ·exact hn (.inr ⟨t,_,ht,hc⟩)
   exact⟨s x l hx,G x l⟩
  ·rcases O jl x f with c|c
   ·subst c;rcases p with hc|⟨hc,_⟩
    ·omega
    ·exact .inr ⟨t,_,ht,hc⟩
   ·exact c
theorem HL.N0 {j:J}{w:World}{jl:List Nat}{ls:List (List D)}{h:af}(hl:HL j w jl ls h){t k:Nat}(ht:h t=some (.tok k 0)) :
  HL (j.cG t ⟨some (w.heap.size,0),1⟩ w.heap.size 0) (w.alloc (.map #[] 0)) jl ls (h.set t (some (.map []))) /\
   bN j w (aV j h jl) (j.cG t ⟨some (w.heap.size,0),1⟩ w.heap.size 0) (w.alloc (.map #[] 0)) (aV (j.cG t ⟨some (w.heap.size,0),1⟩ w.heap.size 0) (h.set t (some (.map []))) jl) /\
   br (j.cG t ⟨some (w.heap.size,0),1⟩ w.heap.size 0) (w.alloc (.map #[] 0)) jl (.a (.d (.map t))) (.map (some w.heap.size)):=by
 obtain⟨G,dI,M,hblk,_⟩:=hl.1.obj t _ ht;have H:j.F w.heap.size=0:=hl.1.fresh _ (Nat.le_refl _);have l:∀x,x<w.heap.size->(w.alloc (.map #[] 0)).heap[x]?=w.heap[x]?:=fun x hx=>rW hx;generalize m:j.cG t ⟨some (w.heap.size,0),1⟩ w.heap.size 0=j';have f:∀x,j'.F x=j.F x:=fun x=>by
  subst m; simp only [J.cG]; split
  ·rename_i c; rw [c,H]
  ·rfl
 have B:j'.next=j.next:=by subst m; rfl
 have bu:j'.tok t=some ⟨some (w.heap.size,0),1⟩:=by subst m; simp [J.cG]
 have I:∀x,x≠t->j'.tok x=j.tok x:=fun x hx=>by subst m; simp [J.cG,hx]
 have hle:Le j w j' (w.alloc (.map #[] 0)):=by
  refine⟨by rw [B]; exact Nat.le_refl _,fun _ _=>by subst m; rfl,fun x=>by rw [f]; exact Nat.le_refl _,fun x o p=>?_,fun x hx=>?_,AD hl.1.fresh fun x hx _=>l x hx⟩
  ·refine vM (l x ?_);rcases Nat.lt_or_ge x w.heap.size with h1|h1
   ·exact h1
   ·rw [hl.1.fresh x h1] at p; omega
  ·by_cases c:x=t
   ·subst c; exact .inr ⟨_,_,M,bu,Nat.zero_lt_one⟩
   ·exact .inl (I x c)
 have C:∀n q x,h n=some q->bH j n q=some x->x<w.heap.size:=fun n q x hn hx=>aV.lt hl (.inr ⟨n,q,hn,hx⟩);have K:∀x,x∈jl->x<w.heap.size:=fun x hx=>aV.lt hl (.inl hx);have g:∀n q,h n=some q->n≠t->iJ j' (w.alloc (.map #[] 0)) n q/\bH j' n q=bH j n q:=fun n q hn N =>
  (hl.1.obj n q hn).2.keep hle (hl.1.obj n q hn).1 (fun x hx=>⟨l x (C n q x hn hx),f x⟩) (fun _=>I n N)
 have E:bH j' t (.map [])=some w.heap.size:=by simp [bH,bu]
 have L:∀jl x,aV j' (h.set t (some (.map []))) jl x->x=w.heap.size\/aV j h jl x:=by
  rintro jl x (hx|⟨n,q,hn,hx⟩)
  ·exact .inr (.inl hx)
  ·by_cases c:n=t
   ·subst c; rw [af.aT] at hn; simp only [Option.some.injEq] at hn; subst hn;rw [E] at hx; simp only [Option.some.injEq] at hx; exact .inl hx.symm
   ·rw [af.aQ h _ c] at hn;exact .inr (.inr ⟨n,q,hn,(g n q hn c).2▸hx⟩)
 refine⟨⟨⟨fun n q hn=>?_,fun r u s v x h1 b y z=>?_,fun x hx=>?_⟩,
  ⟨qh hl.2.each fun xs x hx h=>h.keep hle ⟨l x (K x hx),f x⟩,hl.2.nodup,fun x hx p=>?_⟩⟩, ?_, ?_⟩
 ·rw [B];by_cases c:n=t
  ·subst c; rw [af.aT] at hn; simp only [Option.some.injEq] at hn; subst hn;exact⟨G,w.heap.size,0,[],0,bu,heap_alloc_new w _,.nil,by rw [f]; exact H,List.nodup_nil,(fun _ h=>by cases h),List.nodup_nil⟩
  ·rw [af.aQ h _ c] at hn;exact⟨(hl.1.obj n q hn).1,(g n q hn c).1⟩
 ·by_cases c1:r=t<;>by_cases c2:s=t
  ·omega
  ·subst c1; rw [af.aT] at h1; simp only [Option.some.injEq] at h1; subst h1;rw [af.aQ h _ c2] at b;rw [E] at y; simp only [Option.some.injEq] at y;have:=C s v x b ((g s v b c2).2▸z); omega
  ·subst c2; rw [af.aT] at b; simp only [Option.some.injEq] at b; subst b;rw [af.aQ h _ c1] at h1;rw [E] at z; simp only [Option.some.injEq] at z;have:=C r u x h1 ((g r u h1 c1).2▸y); omega
  ·rw [af.aQ h _ c1] at h1; rw [af.aQ h _ c2] at b;exact hl.1.inj r u s v x h1 b ((g r u h1 c1).2▸y) ((g s v b c2).2▸z)
 ·rw [f];simp only [World.size_alloc] at hx;exact hl.1.fresh x (by omega)
 ·rcases L [] x p with c|c
  ·have:=K x hx; omega
  ·exact hl.2.apart x hx c
 ·refine { toLe:=hle,size:=(by simp),frame:=fun x hx hn=>⟨l x hx,f x⟩,own:=fun x hx p=>?_,os:=rfl,tape:=rfl,output:=fZ.rfl };rcases L jl x p with c|c
  ·omega
  ·exact c
 ·show aD j' (w.alloc (.map #[] 0)) (.map t) (.map (some w.heap.size));refine .map t w.heap.size (by rw [B]; exact G) fun tk hk=>?_;rw [bu] at hk;obtain rfl:=Option.some.inj hk;exact⟨Nat.le_refl _,fun _=>⟨0,rfl⟩⟩
end Go.Ab
/-
 The abstract state of a running function,one operation,a region in the order of its text.
-/
namespace Go.Ab
open Go Go.RowKit
variable {au:bS}
class eT where
 ds:List Deferred
instance (priority:=low) eT.nothing:eT:=⟨[]⟩
variable {f_:eT}
abbrev Ts:=List (Nat×V)
def get:Ts->Nat->V
 | [],_=>.any
 | (k,v)::r,n=>bif Nat.beq k n then v else get r n
theorem ga (k:Nat) (v:V) (r:Ts):get ((k,v)::r) k=v:=by simp [get]
theorem ir {k n:Nat}(v:V) (r:Ts) (h:k≠n):get ((k,v)::r) n=get r n:=by
 have:Nat.beq k n=false:=Bool.eq_false_iff.2 fun e=>h (Nat.eq_of_beq_eq_true e);simp [get,this]
structure St where
 n:Nat
 ts:Ts
 ls:List (List D)
 h:af
def vN:Value->Option D
 | .bool b=>some (.bool b)
 | .int k n=>some (.int k n)
 | .string s=>bif Nat.ble s.data.toList.length fu then some (.str s.data.toList) else none
 | .slice none 0 0=>some (.slice 0 none true [])
 | .pointer none=>some .fG
 | .map none=>some .uo
 | .nilFunc=>some .nilFunc
 | .nilIface=>some .nilIface
 | _=>none
def GR (v:Value):V :=
 match vN v with
 | some x=>.a (.d x)
 | none=>.any
def ev (ts:Ts):Operand->V
 | .tmp t=>get ts t
 | .const v=>GR v
 | .global _=>.any
 | .func f=>.a (.d (.func f []))
theorem C7 (j:J) (w:World) (v:Value) (x:D) (h:vN v=some x):aD j w x v:=by
 unfold vN at h
 split at h<;>simp at h
 ·subst h; exact .bool _
 ·subst h; exact .int _ _
 ·rename_i s
  cases c:Nat.ble s.size fu with
  | false=>rw [c] at h; simp at h
  | true =>
   rw [c] at h; simp at h;subst h;have:=aD.str (j:=j) (w:=w) s.data.toList (by simpa using Nat.le_of_ble_eq_true c)
   simpa using this
 ·subst h; exact .gD _ _ (by simp)
 ·subst h; exact .fG
 ·subst h; exact .uo
 ·subst h; exact .nilFunc
 ·subst h; exact .nilIface
theorem o8 {j:J}{w:World}{jl:List Nat}{ts:Ts}{a:Act}(h:∀k,br j w jl (get ts k) (a.tmps.getD k undef)) (x:Operand):br j w jl (ev ts x) (a.eval x):=by
 cases x with
 | tmp t=>exact h t
 | const v =>
  simp only [ev,GR,Act.eval]
  split
  ·rename_i x hx; exact C7 j w v x hx
  ·trivial
 | global g=>trivial
 | func f=>exact aD.func f [] [] rfl (by simp)
structure gE [eT] (j:J) (w:World) (jl:List Nat) (σ:St) (a:Act):Prop where
 defers:a.defers=eT.ds
 size:a.tmps.size=σ.n
 tmps:∀k,br j w jl (get σ.ts k) (a.tmps.getD k undef)
 hl:HL j w jl σ.ls σ.h
structure Fx where
 rl:Bool:=false
 wl:Bool:=false
 rh:Bool:=false
 wh:Bool:=false
 nu:Bool:=false
def dm [bS] (P:Program) (o:Oper) (ts:Ts) (ls:List (List D)) (h:af) (R:V->List (List D)->af->Prop):Prop :=
 ∀(j:J) (w:World) (jl:List Nat) (a:Act),HL j w jl ls h->(∀x,x∈o.op.operands->br j w jl (ev ts x) (a.eval x)) ->
  ∀(K:Act->World->Prop) (Q:Exit->Act->World->Prop),
   (∀v aS h' cv j' w' b,R v aS h'->br j' w' b v cv->HL j' w' b aS h'->Ext jl b->bN j w (aV j h jl) j' w' (aV j' h' b)->K (a.put o.dst cv) w')->o.wp P a w K Q
def an [bS] (P:Program) (o:Oper) (ts:Ts) (ls:List (List D)) (h:af) (fx:Fx) (v:V) (aS:List (List D)) (h':af):Prop :=
 ∀L H,((fx.rl||fx.wl)=true->L=ls)->((fx.rh||fx.wh)=true->H=h) ->
  dm P o ts L H fun u l k=>u=v/\l=(bif fx.wl then aS else L)/\k=(bif fx.wh then h' else H)
theorem an.step {P:Program}{o:Oper}{ts:Ts}{ls aS:List (List D)}{h h':af}{fx:Fx}{v:V}(hc:an P o ts ls h fx v aS h') :
  dm P o ts ls h fun u l k=>u=v/\l=(bif fx.wl then aS else ls)/\k=(bif fx.wh then h' else h) :=
 hc ls h (fun _=>rfl) (fun _=>rfl)
theorem dm.mono {P:Program}{o:Oper}{ts:Ts}{ls:List (List D)}{h:af}{R b:V->List (List D)->af->Prop}(f:dm P o ts ls h R) (hr:∀v l k,R v l k->b v l k):dm P o ts ls h b :=
 fun j w jl a hl g K Q hk=>f j w jl a hl g K Q fun v aS h' cv j' w' m r=>hk v aS h' cv j' w' m (hr _ _ _ r)
def mo (dst:Option Tmp) (v:V) (ts:Ts):Ts :=
 match dst with
 | some d=>(d,v)::ts
 | none=>ts
def nF (dst:Option Tmp) (n:Nat):Bool :=
 match dst with
 | some d=>Nat.blt d n
 | none=>true
theorem N1 {j:J}{w:World}{jl:List Nat}{ts:Ts}{a:Act}{n:Nat}(b:a.tmps.size=n) (h:∀k,br j w jl (get ts k) (a.tmps.getD k undef)){dst:Option Tmp}(f:nF dst n=true)
  {v:V}{cv:Value}(hv:br j w jl v cv):∀k,br j w jl (get (mo dst v ts) k) ((a.put dst cv).tmps.getD k undef):=by
 intro k;cases dst with
 | none=>exact h k
 | some d =>
  simp only [mo,Act.put];have bn:d<a.tmps.size:=by
   have:Nat.blt d n=true:=f;rw [b]; simpa [Nat.blt_eq] using this
  by_cases e:d=k
  ·subst e;rw [ga]
   simpa [Array.getD_eq_getD_getElem?,bn] using hv
  ·rw [ir _ _ e];have:=h k
   simpa [Array.getD_eq_getD_getElem?,Array.getElem?_setIfInBounds,e] using this
theorem C8 (a:Act) (dst:Option Tmp) (v:Value):(a.put dst v).tmps.size=a.tmps.size:=by cases dst<;>simp [Act.put]
theorem put_defers (a:Act) (dst:Option Tmp) (v:Value):(a.put dst v).defers=a.defers:=by cases dst<;>rfl
theorem gE.put {j j':J}{w w':World}{jl b:List Nat}{σ:St}{a:Act}(h:gE j w jl σ a) (hle:Le j w j' w') (hx:Ext jl b){dst:Option Tmp}(f:nF dst σ.n=true)
  {v:V}{cv:Value}(hv:br j' w' b v cv){aS:List (List D)}{h':af}(hl:HL j' w' b aS h'):gE j' w' b ⟨σ.n,mo dst v σ.ts,aS,h'⟩ (a.put dst cv) :=
 ⟨by rw [put_defers]; exact h.defers,by rw [C8]; exact h.size,N1 h.size (fun k=>(h.tmps k).mono hle hx) f hv,hl⟩
def guardOf (ops:Array Oper) (o:Oper):Option (Nat×Bool) :=
 match o.guard with
 | none=>none
 | some (g,want)=>match (ops[g]?).bind (·.dst) with
  | some d=>some (d,want)
  | none=>none
theorem rX {ops:Array Oper}{o:Oper}{tmps:Array Value}(h:o.guard=none):Region.wanted o (yielded ops tmps)=true:=by simp [Region.wanted,h]
theorem GS {j:J}{w:World}{jl:List Nat}{ts:Ts}{a:Act}{ops:Array Oper}{o:Oper}{d:Nat}{want b:Bool}(hg:guardOf ops o=some (d,want))
  (f:get ts d=.a (.d (.bool b))) (h:br j w jl (get ts d) (a.tmps.getD d undef)):Region.wanted o (yielded ops a.tmps)=(b==want):=by
 unfold guardOf at hg;rw [f] at h;have hv:a.tmps.getD d undef=.bool b:=by
  have h':aD j w (.bool b) (a.tmps.getD d undef):=h;generalize a.tmps.getD d undef=x at h';cases h'; rfl
 have k:a.tmps[d]?=some (.bool b):=by
  rw [Array.getD_eq_getD_getElem?] at hv;cases e:a.tmps[d]? with
  | none=>rw [e] at hv; simp [undef] at hv
  | some x=>rw [e] at hv; simp at hv; rw [hv]
 split at hg
 ·simp at hg
 ·rename_i g l m
  split at hg
  ·rename_i q p
   simp only [Option.some.injEq,Prod.mk.injEq] at hg;obtain⟨rfl,rfl⟩:=hg;simp only [Region.wanted,m,yielded,p,Option.bind_some,k];cases b<;>cases l<;>rfl
  ·simp at hg
def aK [bS] [eT] (P:Program) (ops:Array Oper) (l:List Oper) (Q:St->Prop) (σ:St):Prop :=
 ∀(j:J) (w:World) (jl:List Nat) (a:Act),gE j w jl σ a->∀(f:Exit->Act->World->Prop),
  (∀b j' w' g k,Q b->gE j' w' g b k->bN j w (aV j σ.h jl) j' w' (aV j' b.h g)->f .normal k w')->wpList P ops f l a w
section
variable {P:Program}{ops:Array Oper}{rest:List Oper}{o:Oper}{Q:St->Prop}{n:Nat}{ts:Ts}{ls:List (List D)}{h:af}
theorem aK.nil {σ:St}(hq:Q σ):aK P ops [] Q σ:=fun _ _ _ _ b _ hk=>hk _ _ _ _ _ hq b (bN.refl _ _ _)
theorem aK.run {R:V->List (List D)->af->Prop}(p:dm P o ts ls h R) (q:nF o.dst n=true)
  (hr:∀v aS h',R v aS h'->aK P ops rest Q ⟨n,mo o.dst v ts,aS,h'⟩)
  {j:J}{w:World}{jl:List Nat}{a:Act}(k:gE j w jl ⟨n,ts,ls,h⟩ a) (s:Region.wanted o (yielded ops a.tmps)=true) (f:Exit->Act->World->Prop)
  (hk:∀b j' w' g l,Q b->gE j' w' g b l->bN j w (aV j h jl) j' w' (aV j' b.h g)->f .normal l w'):wpList P ops f (o::rest) a w:=by
 refine wpList_step fun K t=>?_;rw [if_pos s];refine p j w jl a k.hl (fun x _=>o8 k.tmps x) K f fun v aS h' cv j' w' g r hv hl hx m=>t _ _ ?_;exact hr v aS h' r j' w' g _ (k.put m.toLe hx q hv hl) f fun b u y z a2 hq B C=>hk b u y z a2 hq B (m.trans C)
theorem aK.GU {R:V->List (List D)->af->Prop}(b:dm P o ts ls h R) (hg:o.guard=none) (f:nF o.dst n=true)
  (hr:∀v aS h',R v aS h'->aK P ops rest Q ⟨n,mo o.dst v ts,aS,h'⟩):aK P ops (o::rest) Q ⟨n,ts,ls,h⟩ :=
 fun _ _ _ _ g j hk=>aK.run b f hr g (rX hg) j hk
theorem aK.step {fx:Fx}{v:V}{aS:List (List D)}{h':af}(b:an P o ts ls h fx v aS h') (hg:o.guard=none) (f:nF o.dst n=true)
  (hr:aK P ops rest Q ⟨n,mo o.dst v ts,(bif fx.wl then aS else ls),(bif fx.wh then h' else h)⟩):aK P ops (o::rest) Q ⟨n,ts,ls,h⟩ :=
 aK.GU b.step hg f fun _ _ _ ⟨g,j,k⟩=>by rw [g,j,k]; exact hr
end
end Go.Ab
/-
 A region that draws its order: one walk in the order of the text serves every order,where what is not ordered does not meet.
-/
namespace Go.Ab
open Go Go.RowKit
variable {au:bS}
def qi [bS] (P:Program) (ops:Array Oper) (n:Nat) (o:Oper) (ts:Ts) (ls:List (List D)) (h:af) (fx:Fx) (v:V) (aS:List (List D)) (h':af):Prop :=
 nF o.dst n=true/\∀L H,((fx.rl||fx.wl)=true->L=ls)->((fx.rh||fx.wh)=true->H=h) ->
  ∀(j:J) (w:World) (jl:List Nat) (a:Act),HL j w jl L H->(∀t,t∈o.looksAt ops->br j w jl (get ts t) (a.tmps.getD t undef)) ->
   ∀(K:Act->World->Prop) (Q:Exit->Act->World->Prop),
    (∀cv j' w' b,br j' w' b v cv->HL j' w' b (bif fx.wl then aS else L) (bif fx.wh then h' else H)->Ext jl b ->
     bN j w (aV j H jl) j' w' (aV j' (bif fx.wh then h' else H) b)->K (a.put o.dst cv) w') ->
    if Region.wanted o (yielded ops a.tmps) then o.wp P a w K Q else K (a.put o.dst undef) w
theorem GV {j:J}{w:World}{jl:List Nat}{ts:Ts}{a:Act}{ops:Array Oper}{o:Oper}(h:∀t,t∈o.looksAt ops->br j w jl (get ts t) (a.tmps.getD t undef)) :
  ∀x,x∈o.op.operands->br j w jl (ev ts x) (a.eval x):=by
 intro x hx;cases x with
 | tmp t=>exact h t (by simp only [Oper.looksAt,List.mem_append,List.mem_filterMap]; exact .inl ⟨.tmp t,by simpa using hx,rfl⟩)
 | const v=>exact o8 (ts:=[]) (a:=⟨#[],[]⟩) (fun _=>trivial) (.const v)
 | global g=>trivial
 | func f=>exact o8 (ts:=[]) (a:=⟨#[],[]⟩) (fun _=>trivial) (.func f)
theorem N2 {ops:Array Oper}{o:Oper}{d:Nat}{want:Bool}(hg:guardOf ops o=some (d,want)):d∈o.looksAt ops:=by
 unfold guardOf at hg
 split at hg
 ·simp at hg
 ·rename_i g j b
  split at hg
  ·rename_i k f
   simp only [Option.some.injEq,Prod.mk.injEq] at hg;obtain⟨rfl,rfl⟩:=hg;simp only [Oper.looksAt,b,List.mem_append]
   right
   rw [f]; simp
  ·simp at hg
section
variable {P:Program}{ops:Array Oper}{o:Oper}{n:Nat}{ts:Ts}{ls aS:List (List D)}{h h':af}{fx:Fx}{v:V}
theorem qi.plain (b:an P o ts ls h fx v aS h') (hg:o.guard=none) (f:nF o.dst n=true):qi P ops n o ts ls h fx v aS h':=by
 refine⟨f,fun L H g hH j w jl a hl k K Q hk=>?_⟩;rw [if_pos (rX hg)];exact b L H g hH j w jl a hl (GV k) K Q fun _ _ _ cv j' w' l ⟨m,p,q⟩=>by subst m p q; exact hk cv j' w' l
end
def ur (o:Oper) (acc:List Nat):Nat:=o.after.toList.foldl (fun s e=>bif Region.binds .any e then s ||| (2 ^ e.on) ||| acc.getD e.on 0 else s) 0
def lI:List Oper->List Nat->List Nat
 | [],acc=>acc
 | o::r,acc=>lI r (acc++[ur o acc])
theorem GW:∀(l:List Oper) (acc:List Nat),(lI l acc).length=acc.length+l.length/\(lI l acc).take acc.length=acc /\
  ∀k o,l[k]?=some o->(lI l acc)[acc.length+k]?=some (ur o ((lI l acc).take (acc.length+k)))
 | [],acc=>by simp [lI]
 | o::r,acc=>by
  obtain⟨h1,b,f⟩:=GW r (acc++[ur o acc]);simp only [List.length_append,List.length_cons,List.length_nil] at h1 b f;have g:(lI r (acc++[ur o acc])).take acc.length=acc:=by
   have:=congrArg (List.take acc.length) b;rw [List.take_take] at this
   simpa using this
  refine⟨by simp only [lI]; rw [h1]; simp; omega,g,fun k o' hk=>?_⟩;simp only [lI];cases k with
  | zero =>
   simp only [List.getElem?_cons_zero,Option.some.injEq] at hk;subst hk;rw [Nat.add_zero,g];have j:((lI r (acc++[ur o acc])).take (acc.length+(0+1)))[acc.length]?=(acc++[ur o acc])[acc.length]?:=by rw [b]
   rw [List.getElem?_take_of_lt (by omega)] at j;rw [j]; simp
  | succ k =>
   simp only [List.getElem?_cons_succ] at hk;have:=f k o' hk;have e:acc.length+(0+1)+k=acc.length+(k+1):=by omega
   rw [e] at this;exact this
theorem GX (acc:List Nat) (p:Nat):∀(es:List Edge) (s:Nat),(es.foldl (fun s e=>bif Region.binds .any e then s ||| (2 ^ e.on) ||| acc.getD e.on 0 else s) s).testBit p=true ->
  s.testBit p=true\/∃e,e∈es/\Region.binds .any e=true/\(p=e.on\/(acc.getD e.on 0).testBit p=true)
 | [],s,h=>.inl h
 | e::es,s,h=>by
  simp only [List.foldl_cons] at h;rcases GX acc p es _ h with h1|⟨f,h1,g,j⟩
  ·cases b:Region.binds .any e with
   | false=>rw [b] at h1; exact .inl h1
   | true =>
    rw [b] at h1;simp only [cond_true,Nat.testBit_or,Bool.or_eq_true] at h1;rcases h1 with (h1|h1)|h1
    ·exact .inl h1
    ·exact .inr ⟨e,by simp,b,.inl (by rw [Nat.testBit_two_pow] at h1; exact(of_decide_eq_true h1).symm)⟩
    ·exact .inr ⟨e,by simp,b,.inr h1⟩
  ·exact .inr ⟨f,by simp [h1],g,j⟩
def Fx.jX (x y:Fx):Bool:=(x.wl&&(y.rl||y.wl))||(y.wl&&x.rl)||(x.wh&&(y.rh||y.wh))||(y.wh&&x.rh)
def Fx.plain (x:Fx):Fx:={ x with nu:=false }
def GY (T:List Nat) (i k:Nat):Bool:=T.all fun m=>!m.testBit k||m.testBit i
def GZ (ops:Array Oper) (T:List Nat) (l:List (Oper×Fx)):Bool :=
 (List.range l.length).all fun k=>match l[k]? with
  | none=>true
  | some (ok,b)=>ok.after.toList.all (fun e=>!Region.binds .any e||Nat.blt e.on k) &&
   (List.range k).all fun i=>match l[i]? with
    | none=>true
    | some (oi,f)=>(T.getD k 0).testBit i||(oi.apart ops ok&&!f.jX b)||(b.nu&&oi.apart ops ok&&GY T i k)
def AE (ops:Array Oper) (b:List Fx):Bool:=GZ ops (lI ops.toList []) (ops.toList.zip b)
def ord (ops:Array Oper) (i k:Nat):Prop:=((lI ops.toList []).getD k 0).testBit i=true
def vQ (P:Program) (o:Oper) (v:V) (ls aS:List (List D)):Prop :=
 ∃(z:List D) (d:Nat),o.guard=none/\o.dst=some d/\v=.cW ls.length 0/\aS=ls++[z] /\
  ∃(cs:List Value) (e:TypeId),(∀j w,aW (aD j w) z cs) /\
   ∀(a:Act) (w:World) (K:Act->World->Prop) (Q:Exit->Act->World->Prop),K (a.put o.dst (.pointer (some ⟨w.heap.size,0,none⟩))) (w.alloc (.cells cs.toArray e))->o.wp P a w K Q
def C9 [bS] (P:Program) (ops:Array Oper) (n:Nat) (S:Nat->St) (fx:Nat->Fx) (v:Nat->V) (k:Nat) (o:Oper):Prop :=
 qi P ops n o (S k).ts (S k).ls (S k).h (fx k) (v k) (S (k+1)).ls (S (k+1)).h/\(S (k+1)).n=(S k).n/\(S (k+1)).ts=mo o.dst (v k) (S k).ts /\
  ((fx k).wl=false->(S (k+1)).ls=(S k).ls)/\((fx k).wh=false->(S (k+1)).h=(S k).h) /\
  ((fx k).nu=true->(fx k).wl=true/\(fx k).wh=false/\vQ P o (v k) (S k).ls (S (k+1)).ls)
def aN [bS] (P:Program) (ops:Array Oper) (n:Nat) (l:List Oper) (done:List Fx) (Q:St->Prop) (σ:St):Prop :=
 ∃(S:Nat->St) (fx:Nat->Fx) (v:Nat->V),S 0=σ/\(∀k o,l[k]?=some o->C9 P ops n S fx v k o) /\
  AE ops (done.reverse++(List.range l.length).map fx)=true/\Q (S l.length)
theorem aN.nil {P:Program}{ops:Array Oper}{n:Nat}{done:List Fx}{Q:St->Prop}{σ:St}(hc:AE ops done.reverse=true) (hq:Q σ):aN P ops n [] done Q σ :=
 ⟨fun _=>σ,fun _=>{},fun _=>.any,rfl,by simp,by simpa using hc,hq⟩
theorem aN.G0 {P:Program}{ops:Array Oper}{o:Oper}{rest:List Oper}{n:Nat}{done:List Fx}{Q:St->Prop}{ts:Ts}{ls aS:List (List D)}{h h':af}{fx:Fx}{v:V}
  (hc:qi P ops n o ts ls h fx v aS h') (l:fx.nu=true->fx.wl=true/\fx.wh=false/\vQ P o v ls aS)
  (hr:aN P ops n rest (fx::done) Q ⟨n,mo o.dst v ts,(bif fx.wl then aS else ls),(bif fx.wh then h' else h)⟩) :
  aN P ops n (o::rest) done Q ⟨n,ts,ls,h⟩:=by
 obtain⟨S,f,u,h0,h1,m,p⟩:=hr;refine⟨fun k=>match k with|0=>⟨n,ts,ls,h⟩|k+1=>S k,fun k=>match k with|0=>fx|k+1=>f k,fun k=>match k with|0=>v|k+1=>u k,rfl, ?_, ?_,p⟩
 ·intro k o' hk;cases k with
  | zero =>
   simp only [List.getElem?_cons_zero,Option.some.injEq] at hk;subst hk;unfold C9;dsimp only;rw [h0];refine⟨⟨hc.1,fun L H q hH j w jl a hl r K Q hk=>?_⟩,rfl,rfl,fun e=>by simp [e],fun e=>by simp [e],fun e=>?_⟩
   ·have:=hc.2 L H q hH j w jl a hl r K Q
    revert hk
    cases b:fx.wl<;>cases g:fx.wh<;>simp only [b,g,cond_true,cond_false] at this ⊢<;>exact this
   ·obtain⟨b,g,s⟩:=l e;exact⟨b,g,by rw [b]; exact s⟩
  | succ k =>
   simp only [List.getElem?_cons_succ] at hk;exact h1 k o' hk
 ·rw [List.length_cons,List.range_succ_eq_map,List.map_cons,List.map_map]
  simpa [Function.comp_def] using m
theorem aN.cons {P:Program}{ops:Array Oper}{o:Oper}{rest:List Oper}{n:Nat}{done:List Fx}{Q:St->Prop}{ts:Ts}{ls aS:List (List D)}{h h':af}{fx:Fx}{v:V}
  (hc:qi P ops n o ts ls h fx v aS h') (hr:aN P ops n rest (fx.plain::done) Q ⟨n,mo o.dst v ts,(bif fx.wl then aS else ls),(bif fx.wh then h' else h)⟩) :
  aN P ops n (o::rest) done Q ⟨n,ts,ls,h⟩ :=
 aN.G0 (fx:=fx.plain) hc (fun e=>by cases e) hr
theorem aN.born {P:Program}{ops:Array Oper}{o:Oper}{rest:List Oper}{n:Nat}{done:List Fx}{Q:St->Prop}{ts:Ts}{ls aS:List (List D)}{h:af}{v:V}
  (b:vQ P o v ls aS) (f:nF o.dst n=true) (hr:aN P ops n rest ({ wl:=true,nu:=true }::done) Q ⟨n,mo o.dst v ts,aS,h⟩):aN P ops n (o::rest) done Q ⟨n,ts,ls,h⟩:=by
 refine aN.G0 (fx:={ wl:=true,nu:=true }) (h':=h) ⟨f,fun L H g hH j w jl a hl p K Q hk=>?_⟩ (fun _=>⟨rfl,rfl,b⟩) hr;obtain⟨z,d,hg,q,hv,k,cs,e,hz,hw⟩:=b;rw [if_pos (rX hg)];have l:=g rfl;subst l;obtain⟨h1,m⟩:=hl.loc cs e z (hz j w);refine hw a w K Q (hk _ j _ (jl++[w.heap.size]) ?_ ?_ (fun i x hx=>by rw [List.getElem?_append_left (List.getElem?_eq_some_iff.1 hx).1]; exact hx) m)
 ·rw [hv]; exact⟨w.heap.size,by rw [hl.2.each.length]; simp,rfl⟩
 ·rw [k]; exact h1
def rY (ops:Array Oper) (fx:Nat->Fx) (i k:Nat):Prop:=i<k/\(fx k).nu=true/\∃oi ok,ops[i]?=some oi/\ops[k]?=some ok/\oi.apart ops ok=true/\∀m,ord ops k m->ord ops i m
def vo (ops:Array Oper) (fx:Nat->Fx) (i k:Nat):Prop:=ord ops i k\/rY ops fx i k
section
variable {P:Program}{ops:Array Oper}{n:Nat}{S:Nat->St}{fx:Nat->Fx}{v:Nat->V}
theorem N3 (hc:AE ops ((List.range ops.toList.length).map fx)=true) :
  (∀k o,ops[k]?=some o->∀e,e∈o.after.toList->Region.binds .any e=true->e.on<k) /\
  (∀i k oi ok,i<k->ops[i]?=some oi->ops[k]?=some ok->vo ops fx i k\/(oi.apart ops ok=true/\(fx i).jX (fx k)=false)):=by
 have hz:∀k o,ops[k]?=some o->(ops.toList.zip ((List.range ops.toList.length).map fx))[k]?=some (o,fx k):=by
  intro k o hk;have bn:k<ops.size:=by
   rcases Nat.lt_or_ge k ops.size with h|h
   ·exact h
   ·rw [Array.getElem?_eq_none h] at hk; simp at hk
  rw [List.getElem?_zip_eq_some];refine⟨by simpa using hk, ?_⟩;simp [bn]
 have hlen:∀k o,ops[k]?=some o->k<(ops.toList.zip ((List.range ops.toList.length).map fx)).length:=by
  intro k o hk;have:=hz k o hk;exact(List.getElem?_eq_some_iff.1 this).1
 unfold AE GZ at hc;rw [List.all_eq_true] at hc;constructor
 ·intro k o hk e he g;have:=hc k (List.mem_range.2 (hlen k o hk));rw [hz k o hk] at this;simp only [Bool.and_eq_true,List.all_eq_true] at this;have h1:=this.1 e he;rw [g] at h1
  simpa [Nat.blt_eq] using h1
 ·intro i k oi ok f hi hk;have:=hc k (List.mem_range.2 (hlen k ok hk));rw [hz k ok hk] at this;simp only [Bool.and_eq_true,List.all_eq_true] at this;have h1:=this.2 i (List.mem_range.2 f);rw [hz i oi hi] at h1;simp only [Bool.or_eq_true,Bool.and_eq_true] at h1;rcases h1 with (h1|h1)|h1
  ·exact .inl (.inl h1)
  ·exact .inr ⟨h1.1,by simpa using h1.2⟩
  ·refine .inl (.inr ⟨f,h1.1.1,oi,ok,hi,hk,h1.1.2,fun m hm=>?_⟩);have b:=h1.2;unfold GY at b;rw [List.all_eq_true] at b;unfold ord at hm ⊢;rw [List.getD_eq_getElem?_getD] at hm ⊢;cases c:(lI ops.toList [])[m]? with
   | none=>rw [c] at hm; simp at hm
   | some x =>
    rw [c,Option.getD_some] at hm;rw [Option.getD_some];have:=b x (List.mem_of_getElem? c);rw [hm] at this
    simpa using this
theorem N4 (bn:∀k o,ops[k]?=some o->∀e,e∈o.after.toList->Region.binds .any e=true->e.on<k){i k:Nat}(h:ord ops i k) :
  ∃o e,ops[k]?=some o/\e∈o.after.toList/\Region.binds .any e=true/\(i=e.on\/ord ops i e.on):=by
 obtain⟨h1,g,b⟩:=GW ops.toList [];simp only [List.length_nil,Nat.zero_add] at h1 b;unfold ord at h;cases hk:ops[k]? with
 | none =>
  have:ops.toList.length<=k:=by
   rcases Nat.lt_or_ge k ops.size with c|c
   ·rw [Array.getElem?_eq_getElem c] at hk; simp at hk
   ·simpa using c
  rw [List.getD_eq_getElem?_getD,List.getElem?_eq_none (by omega)] at h;simp at h
 | some o =>
  have hm:=b k o (by simpa using hk);rw [List.getD_eq_getElem?_getD,hm,Option.getD_some] at h;unfold ur at h;rcases GX _ i _ _ h with c|⟨e,he,f,c⟩
  ·simp at c
  ·refine⟨o,e,rfl,he,f,c.imp id fun c=>?_⟩;have hl:=bn k o hk e he f;unfold ord;rw [List.getD_eq_getElem?_getD,List.getElem?_take_of_lt hl,<- List.getD_eq_getElem?_getD] at c;exact c
end
end Go.Ab
/-
 A region that draws its order: every order comes to the same end.
-/
namespace Go.Ab
open Go Go.RowKit
variable {au:bS}
variable {f_:eT}
def bG (bw:Array Bool) (i:Nat):Prop:=bw.getD i false=true
structure Inv [bS] [eT] (ops:Array Oper) (S:Nat->St) (fx:Nat->Fx) (v:Nat->V) (n:Nat) (j0:J) (w0:World) (O0:Nat->Prop) (cM bw:Array Bool) (lim:List (Nat×Nat)) (tv:Nat->Value) (j:J) (w:World) (jl:List Nat) (a:Act):Prop where
 qj:cM.size=ops.size
 yu:bw.size=ops.size
 lJ:∀i,bG cM i↔(bG bw i\/∃b,(i,b)∈lim)
 rZ:∀k,bG cM k->∀p,ord ops p k->bG cM p
 closed:∀k,bG bw k->∀p,vo ops fx p k->bG bw p
 defers:a.defers=eT.ds
 vR:a.tmps.size=n
 agree:∀t,(∀m b o,(m,b)∈lim->ops[m]?=some o->o.dst≠some t)->a.tmps.getD t undef=tv t
 tm:∀t,∃k,k<=ops.size/\(∀p o,ops[p]?=some o->o.dst=some t->(bG bw p↔p<k))/\br j w jl (get (S k).ts t) (tv t)
 st:∃kl kh,kl<=ops.size/\kh<=ops.size/\(∀p,p<ops.size->(fx p).wl=true->(bG bw p↔p<kl))/\(∀p,p<ops.size->(fx p).wh=true->(bG bw p↔p<kh)) /\
  HL j w jl (S kl).ls (S kh).h/\bN j0 w0 O0 j w (aV j (S kh).h jl)/\∀m b,(m,b)∈lim->w0.heap.size<=b/\b<w.heap.size/\¬aV j (S kh).h jl b
 nd:lim.Pairwise fun x y=>x.1≠y.1/\x.2≠y.2
 uu:∀m b,(m,b)∈lim->¬bG bw m/\(fx m).nu=true/\(∀p,ord ops p m->bG bw p)/\∃o z d cs e,ops[m]?=some o/\o.dst=some d/\v m=.cW (S m).ls.length 0/\(S (m+1)).ls=(S m).ls++[z] /\
  (∀j w,aW (aD j w) z cs)/\w.heap[b]?=some (.cells cs.toArray e (0,0))/\j.F b=0/\a.tmps.getD d undef=.pointer (some ⟨b,0,none⟩)
section
variable {P:Program}{ops:Array Oper}{n:Nat}{S:Nat->St}{fx:Nat->Fx}{v:Nat->V}
theorem G3 {α:Type}(f:Nat->α){N:Nat}(W:Nat->Prop) (g:∀k,k<N->¬W k->f (k+1)=f k) :
  ∀(a b:Nat),a<=b->b<=N->(∀p,a<=p->p<b->¬W p)->f b=f a:=by
 intro a b l;induction b with
 | zero =>
  intro _ _;have:a=0:=by omega
  rw [this]
 | succ b j =>
  intro m hw;by_cases e:a=b+1
  ·rw [e]
  ·rw [g b (by omega) (hw b (by omega) (by omega))];exact j (by omega) (by omega) fun p h1 q=>hw p h1 (by omega)
theorem vS {α:Type}(f:Nat->α){N:Nat}(W X:Nat->Prop) (g:∀k,k<N->¬W k->f (k+1)=f k){k i:Nat}(hk:k<=N) (hi:i<=N)
  (h1:∀p,p<N->W p->(X p↔p<k)) (j:∀p,p<N->W p->(X p↔p<i)):f k=f i:=by
 rcases Nat.le_total k i with h|h
 ·exact(G3 f W g k i h hi fun p a b hw=>by have:=(j p (by omega) hw).2 b; have:=(h1 p (by omega) hw).1 this; omega).symm
 ·exact G3 f W g i k h hk fun p a b hw=>by have:=(h1 p (by omega) hw).2 b; have:=(j p (by omega) hw).1 this; omega
theorem G4 {bw:Array Bool}{i:Nat}(h:i∈Region.ready .any ops bw) (g:bw.size=ops.size) :
  ∃o,ops[i]?=some o/\i<ops.size/\¬bG bw i/\∀e,e∈o.after.toList->Region.binds .any e=true->bG bw e.on:=by
 simp only [Region.ready,List.mem_filter,List.mem_range,Bool.and_eq_true,Bool.not_eq_true'] at h;obtain⟨bn,h1,b⟩:=h;refine⟨ops[i],by simp [bn],bn, ?_, ?_⟩
 ·unfold bG;rw [Array.getD_eq_getD_getElem?,Array.getElem?_eq_getElem (by omega)] at h1 ⊢;simp at h1 ⊢; exact h1
 ·intro e he f;rw [Array.getElem?_eq_getElem bn] at b;simp only [Option.map_some,Option.getD_some,Array.all_eq_true'] at b;have:=b e (by simpa using he);rw [f] at this
  simpa [bG] using this
theorem bG.set {bw:Array Bool}{i p:Nat}(hi:i<bw.size):bG (bw.setIfInBounds i true) p↔(p=i\/bG bw p):=by
 unfold bG;rw [Array.getD_eq_getD_getElem?,Array.getElem?_setIfInBounds];by_cases e:i=p
 ·subst e; simp [hi]
 ·rw [if_neg e];constructor
  ·intro h; right; rw [Array.getD_eq_getD_getElem?]; exact h
  ·rintro (h|h)
   ·omega
   ·rw [Array.getD_eq_getD_getElem?] at h; exact h
variable (bn:∀k o,ops[k]?=some o->∀e,e∈o.after.toList->Region.binds .any e=true->e.on<k)
 (ea:∀i k oi ok,i<k->ops[i]?=some oi->ops[k]?=some ok->vo ops fx i k\/(oi.apart ops ok=true/\(fx i).jX (fx k)=false))
 (hS:∀k o,ops[k]?=some o->C9 P ops n S fx v k o)
 {j0:J}{w0:World}{O0:Nat->Prop}
include bn in
theorem C_ {bw:Array Bool}{i:Nat}{o:Oper}(l:ops[i]?=some o) (m:∀k,bG bw k->∀p,ord ops p k->bG bw p)
  (f:∀e,e∈o.after.toList->Region.binds .any e=true->bG bw e.on){p:Nat}(h:ord ops p i):bG bw p:=by
 obtain⟨o',e,h1,g,j,b⟩:=N4 bn h;rw [l] at h1; simp only [Option.some.injEq] at h1; subst h1;rcases b with b|b
 ·rw [b]; exact f e g j
 ·exact m e.on (f e g j) p b
include ea in
theorem yw {bw:Array Bool}{i:Nat}{o:Oper}(f:ops[i]?=some o) (g:¬bG bw i) (l:∀k,bG bw k->∀p,vo ops fx p k->bG bw p)
  (m:∀p,vo ops fx p i->bG bw p){p:Nat}{op:Oper}(j:ops[p]?=some op)
  (q:p<i->op.apart ops o=true->(fx p).jX (fx i)=false->False) (r:i<p->o.apart ops op=true->(fx i).jX (fx p)=false->False):bG bw p↔p<i:=by
 rcases Nat.lt_trichotomy p i with h|h|h
 ·refine⟨fun _=>h,fun _=>?_⟩;rcases ea p i op o h j f with h1|⟨h1,b⟩
  ·exact m p h1
  ·exact(q h h1 b).elim
 ·subst h; exact⟨fun h=>(g h).elim,fun h=>by omega⟩
 ·refine⟨fun hr=>?_,fun h'=>by omega⟩;rcases ea i p o op h f j with h1|⟨h1,b⟩
  ·exact(g (l p hr i h1)).elim
  ·exact(r h h1 b).elim
theorem nG {i:Nat}(h:i<ops.size):ops[i]?=some ops[i]:=Array.getElem?_eq_getElem h
theorem uv {i:Nat}{o:Oper}(h:ops[i]?=some o):i<ops.size:=by
 rcases Nat.lt_or_ge i ops.size with h'|h'
 ·exact h'
 ·rw [Array.getElem?_eq_none h'] at h; simp at h
include hS in
theorem G5 (t:Nat):∀k,k<ops.size->¬(∃o,ops[k]?=some o/\o.dst=some t)->get (S (k+1)).ts t=get (S k).ts t:=by
 intro k hk hn;rw [(hS k _ (nG hk)).2.2.1];cases b:(ops[k]).dst with
 | none=>rfl
 | some d =>
  simp only [mo];exact ir _ _ fun e=>hn ⟨_,nG hk,by rw [b,e]⟩
include ea hS in
theorem AF {bw:Array Bool}{i kl:Nat}{o:Oper}(b:ops[i]?=some o) (f:¬bG bw i) (g:∀k,bG bw k->∀p,vo ops fx p k->bG bw p) (j:∀p,vo ops fx p i->bG bw p)
  (l:kl<=ops.size) (m:∀p,p<ops.size->(fx p).wl=true->(bG bw p↔p<kl)) (hr:((fx i).rl||(fx i).wl)=true):(S kl).ls=(S i).ls :=
 vS (fun k=>(S k).ls) (fun p=>(fx p).wl=true) (bG bw) (fun k hk hn=>(hS k _ (nG hk)).2.2.2.1 (by simpa using hn)) l (Nat.le_of_lt (uv b)) m fun p q hw =>
  yw ea b f g j (nG q) (fun _ _ c=>by simp [Fx.jX] at c; simp only [Bool.or_eq_true] at hr; rcases hr with r|r<;>simp [r,hw] at c)
   (fun _ _ c=>by simp [Fx.jX] at c; simp only [Bool.or_eq_true] at hr; rcases hr with r|r<;>simp [r,hw] at c)
include ea hS in
theorem Da {bw:Array Bool}{i kh:Nat}{o:Oper}(b:ops[i]?=some o) (f:¬bG bw i) (g:∀k,bG bw k->∀p,vo ops fx p k->bG bw p) (j:∀p,vo ops fx p i->bG bw p)
  (l:kh<=ops.size) (m:∀p,p<ops.size->(fx p).wh=true->(bG bw p↔p<kh)) (hr:((fx i).rh||(fx i).wh)=true):(S kh).h=(S i).h :=
 vS (fun k=>(S k).h) (fun p=>(fx p).wh=true) (bG bw) (fun k hk hn=>(hS k _ (nG hk)).2.2.2.2.1 (by simpa using hn)) l (Nat.le_of_lt (uv b)) m fun p q hw =>
  yw ea b f g j (nG q) (fun _ _ c=>by simp [Fx.jX] at c; simp only [Bool.or_eq_true] at hr; rcases hr with r|r<;>simp [r,hw] at c)
   (fun _ _ c=>by simp [Fx.jX] at c; simp only [Bool.or_eq_true] at hr; rcases hr with r|r<;>simp [r,hw] at c)
include ea in
theorem Db {bw:Array Bool}{i k:Nat}{o:Oper}(l:i<bw.size) (m:ops[i]?=some o) (q:¬bG bw i) (r:∀k,bG bw k->∀p,vo ops fx p k->bG bw p) (s:∀p,vo ops fx p i->bG bw p)
  (W:Fx->Bool) (f:∀x y:Fx,W x=true->W y=true->x.jX y=true) (hw:∀p,p<ops.size->W (fx p)=true->(bG bw p↔p<k)) :
  ∀p,p<ops.size->W (fx p)=true->(bG (bw.setIfInBounds i true) p↔p<(bif W (fx i) then i+1 else k)):=by
 intro p g b;rw [bG.set l];by_cases e:p=i
 ·subst e; simp [b]
 ·simp only [e,false_or];cases j:W (fx i) with
  | false=>simp only [cond_false]; exact hw p g b
  | true =>
   simp only [cond_true];have:=yw ea m q r s (nG g) (fun _ _ c=>by rw [f _ _ b j] at c; cases c) (fun _ _ c=>by rw [f _ _ j b] at c; cases c);rw [this]; omega
include ea hS in
theorem G6 {bw:Array Bool}{i:Nat}{o:Oper}{j j':J}{w w':World}{jl l:List Nat}{tv m:Nat->Value}(q:i<bw.size) (g:ops[i]?=some o) (r:¬bG bw i)
  (s:∀k,bG bw k->∀p,vo ops fx p k->bG bw p) (u:∀p,vo ops fx p i->bG bw p) (hle:Le j w j' w') (hx:Ext jl l){cv:Value}(hv:br j' w' l (v i) cv)
  (h1:∀t,o.dst=some t->m t=cv) (y:∀t,o.dst≠some t->m t=tv t)
  (z:∀t,∃k,k<=ops.size/\(∀p o,ops[p]?=some o->o.dst=some t->(bG bw p↔p<k))/\br j w jl (get (S k).ts t) (tv t)) :
  ∀t,∃k,k<=ops.size/\(∀p o,ops[p]?=some o->o.dst=some t->(bG (bw.setIfInBounds i true) p↔p<k))/\br j' w' l (get (S k).ts t) (m t):=by
 intro t;have E:=uv g;by_cases ht:o.dst=some t
 ·refine⟨i+1,by omega,fun p op b f=>?_, ?_⟩
  ·rw [bG.set q];by_cases e:p=i
   ·subst e; simp
   ·have:=yw ea g r s u b (fun _ c _=>(Oper.apart_spec c).2.1 t f ht) (fun _ c _=>(Oper.apart_spec c).2.1 t ht f);rw [this]; omega
  ·rw [(hS i o g).2.2.1,ht,h1 t ht];simp only [mo,ga];exact hv
 ·obtain⟨k,B,hw,C⟩:=z t;refine⟨k,B,fun p op b f=>?_, ?_⟩
  ·rw [bG.set q];have:p≠i:=fun e=>by subst e; rw [g] at b; simp only [Option.some.injEq] at b; subst b; exact ht f
   simp only [this,false_or]; exact hw p op b f
  ·rw [y t ht]; exact C.mono hle hx
theorem G7 (x y:Fx) (hx:x.wl=true) (b:y.wl=true):x.jX y=true:=by simp [Fx.jX,hx,b]
theorem N5 (x y:Fx) (hx:x.wh=true) (b:y.wh=true):x.jX y=true:=by simp [Fx.jX,hx,b]
theorem AG {bw:Array Bool}{i:Nat}{R:Nat->Nat->Prop}(f:i<bw.size) (g:∀k,bG bw k->∀p,R p k->bG bw p) (j:∀p,R p i->bG bw p) :
  ∀k,bG (bw.setIfInBounds i true) k->∀p,R p k->bG (bw.setIfInBounds i true) p:=by
 intro k hr p b;rw [bG.set f] at hr ⊢;rcases hr with hr|hr
 ·subst hr; exact .inr (j p b)
 ·exact .inr (g k hr p b)
theorem AH (a:Act) (dst:Option Tmp) (cv:Value) (t:Nat) (h:dst≠some t):(a.put dst cv).tmps.getD t undef=a.tmps.getD t undef:=by
 cases dst with
 | none=>rfl
 | some d =>
  have:d≠t:=fun e=>h (by rw [e]);simp [Act.put,Array.getD_eq_getD_getElem?,Array.getElem?_setIfInBounds,this]
theorem G8 (a:Act) (t:Nat) (cv:Value) (h:t<a.tmps.size):(a.put (some t) cv).tmps.getD t undef=cv:=by
 simp [Act.put,Array.getD_eq_getD_getElem?,h]
theorem N6 {bw:Array Bool}{i m:Nat}{o b:Oper}(ea:∀i k oi ok,i<k->ops[i]?=some oi->ops[k]?=some ok->vo ops fx i k\/(oi.apart ops ok=true/\(fx i).jX (fx k)=false))
  (g:ops[i]?=some o) (hm:ops[m]?=some b) (t:m≠i) (q:¬bG bw m) (r:∀p,vo ops fx p i->bG bw p) (s:¬ord ops i m){d:Nat}(f:b.dst=some d):d∉o.looksAt ops/\o.dst≠some d:=by
 rcases Nat.lt_or_ge m i with h|h
 ·rcases ea m i b o h hm g with h1|⟨h1,_⟩
  ·exact(q (r m h1)).elim
  ·exact⟨(Oper.apart_spec h1).1 d f,fun e=>(Oper.apart_spec h1).2.1 d f e⟩
 ·have h:i<m:=by omega
  have:o.apart ops b=true:=by
   rcases ea i m o b h g hm with (h1|⟨_,_,oi,ok,j,l,h1,_⟩)|⟨h1,_⟩
   ·exact(s h1).elim
   ·rw [g] at j; rw [hm] at l; simp only [Option.some.injEq] at j l; subst j l; exact h1
   ·exact h1
  exact⟨(Oper.apart_spec this).2.2 d f,fun e=>(Oper.apart_spec this).2.1 d e f⟩
include bn ea hS in
theorem N7 {cM bw:Array Bool}{lim:List (Nat×Nat)}{tv:Nat->Value}{j:J}{w:World}{jl:List Nat}{a:Act}(hinv:Inv ops S fx v n j0 w0 O0 cM bw lim tv j w jl a){i:Nat}{o:Oper}
  (f:ops[i]?=some o) (y:¬bG cM i) (Z:∀e,e∈o.after.toList->Region.binds .any e=true->bG cM e.on) (g:∀p,vo ops fx p i->bG bw p)
  {K:Act->World->Prop}{Q:Exit->Act->World->Prop}(hk:∀aa j' w' B I,Inv ops S fx v n j0 w0 O0 (cM.setIfInBounds i true) (bw.setIfInBounds i true) lim aa j' w' B I->K I w'):wpOp P ops Q i K a w:=by
 have C:=uv f;have q:i<bw.size:=by rw [hinv.yu]; exact C
 have L:i<cM.size:=by rw [hinv.qj]; exact C
 have r:¬bG bw i:=fun c=>y ((hinv.lJ i).2 (.inl c));have M:∀b,(i,b)∉lim:=fun b c=>y ((hinv.lJ i).2 (.inr ⟨b,c⟩));obtain⟨N,ao,ap,aq,ar,au⟩:=hS i o f;obtain⟨kl,kh,ab,ad,O,R,ae,ah,U⟩:=hinv.st;have ai:=AF ea hS f r hinv.closed g ab O;have hH:=Da ea hS f r hinv.closed g ad R;have W:∀m b l d,(m,b)∈lim->ops[m]?=some l->l.dst=some d->d∉o.looksAt ops/\o.dst≠some d:=fun m b l d hm E F =>
  N6 ea f E (fun e=>M b (e▸hm)) (hinv.uu m b hm).1 g (fun c=>y (hinv.rZ m ((hinv.lJ m).2 (.inr ⟨b,hm⟩)) i c)) F
 have aj:∀t,t∈o.looksAt ops->br j w jl (get (S i).ts t) (a.tmps.getD t undef):=by
  intro t ht;rw [hinv.agree t fun m b l hm E F=>(W m b l t hm E F).1 ht];obtain⟨k,hk,hw,hv⟩:=hinv.tm t;have:get (S k).ts t=get (S i).ts t :=
   vS (fun k=>get (S k).ts t) (fun p=>∃o,ops[p]?=some o/\o.dst=some t) (bG bw) (G5 hS t) hk (Nat.le_of_lt C) (fun p _ ⟨op,h1,s⟩=>hw p op h1 s) fun p _ ⟨op,h1,s⟩ =>
    yw ea f r hinv.closed g h1 (fun _ c _=>(Oper.apart_spec c).1 t s ht) (fun _ c _=>(Oper.apart_spec c).2.2 t s ht)
  rw [<- this]; exact hv
 have u:=N.2 (S kl).ls (S kh).h ai hH j w jl a ae aj K Q fun cv j' w' B hv hl hx he =>
  hk (fun t=>if o.dst=some t then cv else tv t) j' w' B _ ?_
 ·unfold wpOp;simp only [f]
  split
  ·rename_i hw; rw [if_pos hw] at u; exact .inl u
  ·rename_i hw; rw [if_neg hw] at u; exact u
 ·have G:(S (bif (fx i).wh then i+1 else kh)).h=(bif (fx i).wh then(S (i+1)).h else(S kh).h):=by cases (fx i).wh<;>rfl
  refine⟨by simp [hinv.qj],by simp [hinv.yu],fun k=>?_,AG L hinv.rZ fun p H=>C_ bn f hinv.rZ Z H,AG q hinv.closed g,by rw [put_defers]; exact hinv.defers,
   by rw [C8]; exact hinv.vR,fun t ht=>?_,G6 ea hS q f r hinv.closed g he.toLe hx hv (fun t e=>by simp [e]) (fun t e=>by simp [e]) hinv.tm, ?_,hinv.nd,fun m b hm=>?_⟩
  ·rw [bG.set L,bG.set q,hinv.lJ k];constructor
   ·rintro (h|h|h)
    ·exact .inl (.inl h)
    ·exact .inl (.inr h)
    ·exact .inr h
   ·rintro ((h|h)|h)
    ·exact .inl h
    ·exact .inr (.inl h)
    ·exact .inr (.inr h)
  ·by_cases e:o.dst=some t
   ·rw [if_pos e,e];refine G8 a t cv ?_;have X:=N.1;rw [e] at X;rw [hinv.vR]; simpa [nF,Nat.blt_eq] using X
   ·rw [if_neg e,AH a o.dst cv t e]; exact hinv.agree t ht
  ·refine⟨(bif (fx i).wl then i+1 else kl),(bif (fx i).wh then i+1 else kh),by cases (fx i).wl<;>simp<;>omega,by cases (fx i).wh<;>simp<;>omega,
    Db ea q f r hinv.closed g (·.wl) G7 O,Db ea q f r hinv.closed g (·.wh) N5 R, ?_, ?_,fun m b hm=>?_⟩
   ·have ak:(S (bif (fx i).wl then i+1 else kl)).ls=(bif (fx i).wl then(S (i+1)).ls else(S kl).ls):=by cases (fx i).wl<;>rfl
    rw [ak,G]; exact hl
   ·rw [G]; exact ah.trans he
   ·obtain⟨g1,g2,g3⟩:=U m b hm;rw [G];exact⟨g1,Nat.lt_of_lt_of_le g2 he.size,fun c=>g3 (he.own b g2 c)⟩
  ·obtain⟨g1,g2,g0,l,z,d,cs,e,g3,g4,g5,g6,g7,g8,g9,g10⟩:=hinv.uu m b hm;obtain⟨av,al,am⟩:=U m b hm;have Y:=he.frame b al am;refine⟨fun c=>?_,g2,fun p H=>(bG.set q).2 (.inr (g0 p H)),l,z,d,cs,e,g3,g4,g5,g6,g7,by rw [Y.1]; exact g8,by rw [Y.2]; exact g9, ?_⟩
   ·rcases (bG.set q).1 c with c|c
    ·subst c; exact M b hm
    ·exact g1 c
   ·rw [AH a o.dst cv d (W m b l d hm g3 g4).2]; exact g10
include bn ea hS in
theorem N8 {cM bw:Array Bool}{lim:List (Nat×Nat)}{tv:Nat->Value}{j:J}{w:World}{jl:List Nat}{a:Act}(hinv:Inv ops S fx v n j0 w0 O0 cM bw lim tv j w jl a){i:Nat}{o:Oper}
  (f:ops[i]?=some o) (y:¬bG cM i) (R:∀e,e∈o.after.toList->Region.binds .any e=true->bG cM e.on) (E:∀p,ord ops p i->bG bw p) (F:(fx i).nu=true)
  {K:Act->World->Prop}{Q:Exit->Act->World->Prop}(hk:∀w' G b,Inv ops S fx v n j0 w0 O0 (cM.setIfInBounds i true) bw ((i,b)::lim) tv j w' jl G->K G w'):wpOp P ops Q i K a w:=by
 have U:=uv f;have H:i<cM.size:=by rw [hinv.qj]; exact U
 have W:¬bG bw i:=fun c=>y ((hinv.lJ i).2 (.inl c));have I:∀b,(i,b)∉lim:=fun b c=>y ((hinv.lJ i).2 (.inr ⟨b,c⟩));obtain⟨X,ax,ay,aA,aB,Y⟩:=hS i o f;obtain⟨aC,aD,z,d,hg,l,hv,Z,cs,e,hz,aa⟩:=Y F;obtain⟨kl,kh,ab,ad,ae,ah,s,L,B⟩:=hinv.st;have ai:d<a.tmps.size:=by
  have M:=X.1;rw [l] at M;rw [hinv.vR]; simpa [nF,Nat.blt_eq] using M
 have aj:∀m b g t,(m,b)∈lim->ops[m]?=some g->g.dst=some t->t≠d:=fun m b g t hm u ht e=>by
  subst e;have aE:m≠i:=fun e=>I b (e▸hm);have ak:¬ord ops i m:=fun c=>y (hinv.rZ m ((hinv.lJ m).2 (.inr ⟨b,hm⟩)) i c);rcases Nat.lt_or_ge m i with h|h
  ·rcases ea m i g o h u f with (h1|⟨_,_,oi,ok,q,r,h1,_⟩)|⟨h1,_⟩
   ·exact(hinv.uu m b hm).1 (E m h1)
   ·rw [u] at q; rw [f] at r; simp only [Option.some.injEq] at q r; subst q r; exact(Oper.apart_spec h1).2.1 t ht l
   ·exact(Oper.apart_spec h1).2.1 t ht l
  ·rcases ea i m o g (by omega) f u with (h1|⟨_,_,oi,ok,q,r,h1,_⟩)|⟨h1,_⟩
   ·exact ak h1
   ·rw [f] at q; rw [u] at r; simp only [Option.some.injEq] at q r; subst q r; exact(Oper.apart_spec h1).2.1 t l ht
   ·exact(Oper.apart_spec h1).2.1 t l ht
 have N:=s.data (au:=au) (.cells cs.toArray e) 0;rw [J.yt (s.1.fresh _ (Nat.le_refl _))] at N;obtain⟨al,O⟩:=N;unfold wpOp;simp only [f];rw [if_pos (rX hg)];refine .inl (aa a w K Q (hk _ _ w.heap.size ?_));refine⟨by simp [hinv.qj],hinv.yu,fun k=>?_,AG H hinv.rZ fun p am=>C_ bn f hinv.rZ R am,hinv.closed,by rw [put_defers]; exact hinv.defers,by rw [C8]; exact hinv.vR,
  fun t ht=>?_,fun t=>?_,⟨kl,kh,ab,ad,ae,ah,al,L.trans O,fun m b hm=>?_⟩, ?_,fun m b hm=>?_⟩
 ·rw [bG.set H,hinv.lJ k];constructor
  ·rintro (h|h|⟨b,h⟩)
   ·exact .inr ⟨w.heap.size,by rw [h]; simp⟩
   ·exact .inl h
   ·exact .inr ⟨b,by simp [h]⟩
  ·rintro (h|⟨b,h⟩)
   ·exact .inr (.inl h)
   ·rcases List.mem_cons.1 h with h|h
    ·exact .inl (by simpa using congrArg Prod.fst h)
    ·exact .inr (.inr ⟨b,h⟩)
 ·have h1:o.dst≠some t:=ht i w.heap.size o (by simp) f;rw [AH a o.dst _ t h1];exact hinv.agree t fun m b g hm=>ht m b g (by simp [hm])
 ·obtain⟨k,h1,ao,ap⟩:=hinv.tm t;exact⟨k,h1,ao,ap.mono O.toLe (Ext.refl _)⟩
 ·rcases List.mem_cons.1 hm with h|h
  ·simp only [Prod.mk.injEq] at h;obtain⟨rfl,rfl⟩:=h;exact⟨L.size,by simp,fun c=>Nat.lt_irrefl _ (aV.lt s c)⟩
  ·obtain⟨g1,g2,g3⟩:=B m b h;exact⟨g1,by simp; omega,g3⟩
 ·refine List.pairwise_cons.2 ⟨fun x hx=>⟨fun c=>I x.2 (by have c:i=x.1:=c; rw [c]; exact hx),fun c=>?_⟩,hinv.nd⟩;have:=(B x.1 x.2 hx).2.1;simp only at c;omega
 ·rcases List.mem_cons.1 hm with h|h
  ·simp only [Prod.mk.injEq] at h;obtain⟨rfl,rfl⟩:=h;refine⟨W,F,E,o,z,d,cs,e,f,l,hv,Z,hz,heap_alloc_new w _,s.1.fresh _ (Nat.le_refl _), ?_⟩;rw [l]; exact G8 a d _ ai
  ·obtain⟨g1,g2,g0,g,aq,C,ar,av,g3,g4,g5,g6,g7,g8,g9,g10⟩:=hinv.uu m b h;obtain⟨aF,aw,aG⟩:=B m b h;refine⟨g1,g2,g0,g,aq,C,ar,av,g3,g4,g5,g6,g7,by rw [rW aw]; exact g8,g9, ?_⟩;rw [AH a o.dst _ C (by rw [l]; intro c; simp only [Option.some.injEq] at c; exact aj m b g C h g3 g4 c.symm)];exact g10
theorem G9:∀{l:List (Nat×Nat)},l.Pairwise (fun x y=>x.1≠y.1/\x.2≠y.2)->∀{x y},x∈l->y∈l->x.1≠y.1->x.2≠y.2
 | [],_,_,_,hx,_,_=>by simp at hx
 | a::l,h,x,y,hx,j,hn=>by
  obtain⟨h1,k⟩:=List.pairwise_cons.1 h;rcases List.mem_cons.1 hx with ex|b<;>rcases List.mem_cons.1 j with f|g
  ·subst ex f; exact(hn rfl).elim
  ·subst ex; exact(h1 y g).2
  ·subst f; exact(h1 x b).2.symm
  ·exact G9 k b g hn
include ea hS in
theorem N9 {cM bw:Array Bool}{lim:List (Nat×Nat)}{tv:Nat->Value}{j:J}{w:World}{jl:List Nat}{a:Act}(hinv:Inv ops S fx v n j0 w0 O0 cM bw lim tv j w jl a){m b:Nat}
  (hm:(m,b)∈lim) (r:∀p,vo ops fx p m->bG bw p):∃N,Inv ops S fx v n j0 w0 O0 cM (bw.setIfInBounds m true) (lim.filter fun x=>x.1 != m) N j w (jl++[b]) a:=by
 obtain⟨u,O,_,o,z,d,cs,e,l,P,hv,Q,hz,R,U,W⟩:=hinv.uu m b hm;have X:=uv l;have g:m<bw.size:=by rw [hinv.yu]; exact X
 obtain⟨kl,kh,Y,Z,G,aa,q,B,H⟩:=hinv.st;obtain⟨ah,ai,I⟩:=H m b hm;obtain⟨K,ab,_⟩:=(hS m o l).2.2.2.2.2 O;have L:=AF ea hS l u hinv.closed r Y G (by rw [K]; simp);have hx:Ext jl (jl++[b]):=fun i x hx=>by rw [List.getElem?_append_left (List.getElem?_eq_some_iff.1 hx).1]; exact hx
 have C:∀m' b',(m',b')∈lim.filter (fun x=>x.1 != m)->(m',b')∈lim/\m'≠m:=fun m' b' h=>by
  rw [List.mem_filter] at h; exact⟨h.1,by simpa using h.2⟩
 refine⟨fun t=>if o.dst=some t then .pointer (some ⟨b,0,none⟩) else tv t,hinv.qj,by simp [hinv.yu],fun k=>?_,hinv.rZ,AG g hinv.closed r,hinv.defers,hinv.vR,fun t ht=>?_,
  G6 ea hS g l u hinv.closed r (Le.refl j w) hx (cv:=.pointer (some ⟨b,0,none⟩)) ?_ (fun t e=>by simp [e]) (fun t e=>by simp [e]) hinv.tm,
  ⟨m+1,kh,by omega,Z, ?_,fun p E hw=>?_, ?_,{ B with own:=fun b' s f=>?_ },fun m' b' h=>?_⟩,hinv.nd.filter _,fun m' b' h=>?_⟩
 ·rw [bG.set g,hinv.lJ k];constructor
  ·rintro (h|⟨b',h⟩)
   ·exact .inl (.inr h)
   ·by_cases e:k=m
    ·exact .inl (.inl e)
    ·exact .inr ⟨b',by rw [List.mem_filter]; exact⟨h,by simpa using e⟩⟩
  ·rintro ((h|h)|⟨b',h⟩)
   ·exact .inr ⟨b,h▸hm⟩
   ·exact .inl h
   ·exact .inr ⟨b',(C k b' h).1⟩
 ·by_cases e:o.dst=some t
  ·rw [if_pos e];rw [P] at e;simp only [Option.some.injEq] at e;subst e;exact W
  ·rw [if_neg e];refine hinv.agree t fun m' b' o' ad f=>?_;by_cases c:m'=m
   ·subst c; rw [l] at f; simp only [Option.some.injEq] at f; subst f; exact e
   ·exact ht m' b' o' (by rw [List.mem_filter]; exact⟨ad,by simpa using c⟩) f
 ·rw [hv];refine⟨b, ?_,rfl⟩;rw [<- L,q.2.each.length]; simp
 ·have:=Db ea g l u hinv.closed r (·.wl) G7 G;rw [K] at this;exact this
 ·rw [bG.set g,<- aa p E hw];refine⟨fun c=>c.elim (fun e=>?_) id,.inr⟩;subst e; rw [ab] at hw; cases hw
 ·rw [Q,<- L];refine⟨q.1,q.2.each.append (.cons ⟨cs,e,R,hz j w,U⟩ .nil), ?_,fun b' s f=>?_⟩
  ·rw [List.nodup_append];refine⟨q.2.nodup,by simp,fun x ae y M=>?_⟩;simp at M; subst M;intro c; subst c; exact I (.inl ae)
  ·rcases List.mem_append.1 s with h|h
   ·exact q.2.apart b' h f
   ·simp at h; subst h;rcases f with h|h
    ·simp at h
    ·exact I (.inr h)
 ·rcases f with h|h
  ·rcases List.mem_append.1 h with h|h
   ·exact B.own b' s (.inl h)
   ·simp at h; omega
  ·exact B.own b' s (.inr h)
 ·obtain⟨h1,F⟩:=C m' b' h;obtain⟨g1,g2,g3⟩:=H m' b' h1;refine⟨g1,g2,fun c=>?_⟩;rcases c with c|c
  ·rcases List.mem_append.1 c with c|c
   ·exact g3 (.inl c)
   ·simp at c;exact G9 hinv.nd h1 hm F c
  ·exact g3 (.inr c)
 ·obtain⟨h1,F⟩:=C m' b' h;obtain⟨g1,g2,g0,g3⟩:=hinv.uu m' b' h1;exact⟨fun c=>((bG.set g).1 c).elim F g1,g2,fun p E=>(bG.set g).2 (.inr (g0 p E)),g3⟩
include ea hS in
theorem settle {j:J}{w:World}{a:Act}{cM:Array Bool}{C:Prop}:∀(N:Nat){bw:Array Bool}{lim:List (Nat×Nat)}{tv:Nat->Value}{jl:List Nat},lim.length<=N->Inv ops S fx v n j0 w0 O0 cM bw lim tv j w jl a ->
  (∀bw lim tv jl,Inv ops S fx v n j0 w0 O0 cM bw lim tv j w jl a->(∀m b,(m,b)∈lim->∃p,rY ops fx p m/\¬bG bw p)->C)->C:=by
 intro N;induction N with
 | zero =>
  intro bw lim tv jl g hinv hC;have:lim=[]:=List.eq_nil_of_length_eq_zero (by omega);subst this;exact hC _ _ _ _ hinv fun m b h=>by simp at h
 | succ N k =>
  intro bw lim tv jl g hinv hC;by_cases c:∃m b,(m,b)∈lim/\∀p,rY ops fx p m->bG bw p
  ·obtain⟨m,b,hm,f⟩:=c;obtain⟨l,h⟩:=N9 ea hS hinv hm fun p h=>h.elim ((hinv.uu m b hm).2.2.1 p) (f p);refine k ?_ h hC;have:(lim.filter fun x=>x.1 != m).length<lim.length:=List.length_filter_lt_length_iff_exists.2 ⟨(m,b),hm,by simp⟩;omega
  ·refine hC _ _ _ _ hinv fun m b hm=>Classical.byContradiction fun c'=>c ⟨m,b,hm,fun p f=>Classical.byContradiction fun c2=>c' ⟨p,f,c2⟩⟩
theorem Oa {cM bw:Array Bool}{lim:List (Nat×Nat)}{tv:Nat->Value}{j:J}{w:World}{jl:List Nat}{a:Act}(hinv:Inv ops S fx v n j0 w0 O0 cM bw lim tv j w jl a)
  (f:∀m b,(m,b)∈lim->∃p,rY ops fx p m/\¬bG bw p){i:Nat}(g:∀p,ord ops p i->bG cM p):∀m b,(m,b)∈lim->ord ops m i->False:=by
 intro m;induction m using Nat.strongRecOn with
 | _ m k =>
  intro b hm l;obtain⟨p,q,hn⟩:=f m b hm;obtain⟨bn,_,_,_,_,_,_,r⟩:=q;have h1:=r i l;rcases (hinv.lJ p).1 (g p h1) with h|⟨b',h⟩
  ·exact hn h
  ·exact k p bn b' h h1
theorem Ob {cM bw:Array Bool}{lim:List (Nat×Nat)}{tv:Nat->Value}{j:J}{w:World}{jl:List Nat}{a:Act}(hinv:Inv ops S fx v n j0 w0 O0 cM bw lim tv j w jl a)
  (f:∀m b,(m,b)∈lim->∃p,rY ops fx p m/\¬bG bw p) (g:∀p,p<ops.size->bG cM p):lim=[]:=by
 have:∀m b,(m,b)∈lim->False:=by
  intro m;induction m using Nat.strongRecOn with
  | _ m k =>
   intro b hm;obtain⟨p,l,hn⟩:=f m b hm;obtain⟨bn,_,oi,ok,q,_⟩:=l;rcases (hinv.lJ p).1 (g p (uv q)) with h|⟨b',h⟩
   ·exact hn h
   ·exact k p bn b' h
 cases lim with
 | nil=>rfl
 | cons x r=>exact(this x.1 x.2 (by simp)).elim
include bn in
theorem Oc {bw:Array Bool}(j:bw.size=ops.size) (h:Region.ready .any ops bw=[]):∀p,p<ops.size->bG bw p:=by
 intro p;induction p using Nat.strongRecOn with
 | _ p f =>
  intro b;rcases hr:bw.getD p false with _|_
  ·have:p∈Region.ready .any ops bw:=by
    simp only [Region.ready,List.mem_filter,List.mem_range,Bool.and_eq_true,Bool.not_eq_true'];refine⟨b, ?_, ?_⟩
    ·rw [Array.getD_eq_getD_getElem?,Array.getElem?_eq_getElem (by omega)] at hr ⊢
     simpa using hr
    ·rw [Array.getElem?_eq_getElem b];simp only [Option.map_some,Option.getD_some,Array.all_eq_true'];intro e he;cases g:Region.binds .any e with
     | false=>simp
     | true =>
      have hl:=bn p _ (nG b) e (by simpa using he) g;have:=f e.on hl (by omega)
      simpa [bG] using this
   rw [h] at this; simp at this
  ·exact hr
include bn ea hS in
theorem Od {Q:Exit->Act->World->Prop}(U:∀j w jl a,gE j w jl (S ops.size) a->bN j0 w0 O0 j w (aV j (S ops.size).h jl)->(S ops.size).n=n->Q .normal a w) (hn:∀k,k<=ops.size->(S k).n=n) :
  ∀(fuel:Nat) (cM bw:Array Bool) (lim:List (Nat×Nat)) (tv:Nat->Value) (j:J) (w:World) (jl:List Nat) (a:Act),((List.range ops.size).filter fun i=>!cM.getD i false).length<=fuel ->
   Inv ops S fx v n j0 w0 O0 cM bw lim tv j w jl a->(∀m b,(m,b)∈lim->∃p,rY ops fx p m/\¬bG bw p)->wpAny P .any ops Q fuel cM a w:=by
 have fin:∀(cM bw:Array Bool) (lim:List (Nat×Nat)) (tv:Nat->Value) (j:J) (w:World) (jl:List Nat) (a:Act),Inv ops S fx v n j0 w0 O0 cM bw lim tv j w jl a ->
   (∀m b,(m,b)∈lim->∃p,rY ops fx p m/\¬bG bw p)->(∀p,p<ops.size->bG cM p)->Q .normal a w:=by
  intro cM bw lim tv j w jl a hinv q K;have W:=Ob hinv q K;subst W;have r:∀p,p<ops.size->bG bw p:=fun p f=>((hinv.lJ p).1 (K p f)).elim id fun⟨b,h⟩=>by simp at h
  obtain⟨kl,kh,X,Y,Z,aa,ab,ad,_⟩:=hinv.st;have ae:(S kl).ls=(S ops.size).ls:=vS (fun k=>(S k).ls) (fun p=>(fx p).wl=true) (bG bw) (fun k hk hn=>(hS k _ (nG hk)).2.2.2.1 (by simpa using hn)) X (Nat.le_refl _) Z
   fun p f _=>⟨fun _=>f,fun _=>r p f⟩
  have L:(S kh).h=(S ops.size).h:=vS (fun k=>(S k).h) (fun p=>(fx p).wh=true) (bG bw) (fun k hk hn=>(hS k _ (nG hk)).2.2.2.2.1 (by simpa using hn)) Y (Nat.le_refl _) aa
   fun p f _=>⟨fun _=>f,fun _=>r p f⟩
  refine U j w jl a ⟨hinv.defers,by rw [hn _ (Nat.le_refl _)]; exact hinv.vR,fun t=>?_,by rw [<- ae,<- L]; exact ab⟩ (by rw [<- L]; exact ad) (hn _ (Nat.le_refl _));obtain⟨k,hk,hw,hv⟩:=hinv.tm t;have:get (S k).ts t=get (S ops.size).ts t :=
   vS (fun k=>get (S k).ts t) (fun p=>∃o,ops[p]?=some o/\o.dst=some t) (bG bw) (G5 hS t) hk (Nat.le_refl _) (fun p _ ⟨op,h1,g⟩=>hw p op h1 g) fun p f _ =>
    ⟨fun _=>f,fun _=>r p f⟩
  rw [<- this,hinv.agree t fun m b o h=>by simp at h]; exact hv
 intro fuel;induction fuel with
 | zero =>
  intro cM bw lim tv j w jl a ah hinv q;have r:∀p,p<ops.size->bG cM p:=by
   intro p f;rcases hr:cM.getD p false with _|_
   ·have:p∈(List.range ops.size).filter fun i=>!cM.getD i false:=by simp only [List.mem_filter,List.mem_range]; exact⟨f,by rw [hr]; rfl⟩
    have:=List.length_pos_of_mem this; omega
   ·exact hr
  refine⟨?_,fin cM bw lim tv j w jl a hinv q r⟩;rw [List.eq_nil_iff_forall_not_mem];intro i hi;obtain⟨_,_,u,l,_⟩:=G4 hi hinv.qj;exact l (r i u)
 | succ fuel M =>
  intro cM bw lim tv j w jl a ah hinv q;refine⟨fun hr=>fin cM bw lim tv j w jl a hinv q (Oc bn hinv.qj hr),fun i hi=>?_⟩;obtain⟨o,y,u,l,z⟩:=G4 hi hinv.qj;have N:i<cM.size:=by rw [hinv.qj]; exact u
  have O:((List.range ops.size).filter fun p=>!(cM.setIfInBounds i true).getD p false).length<=fuel:=by
   have aj:((List.range ops.size).filter fun p=>!(cM.setIfInBounds i true).getD p false).length<((List.range ops.size).filter fun p=>!cM.getD p false).length:=by
    have ai:((List.range ops.size).filter fun p=>!(cM.setIfInBounds i true).getD p false)=((List.range ops.size).filter fun p=>!cM.getD p false).filter (fun p=>p != i):=by
     rw [List.filter_filter];refine List.filter_congr fun p _=>?_;by_cases B:p=i
     ·subst B;have s:bG (cM.setIfInBounds p true) p:=(bG.set N).2 (.inl rfl);unfold bG at s;rw [s]; simp
     ·have s:bG (cM.setIfInBounds i true) p↔bG cM p:=by rw [bG.set N]; simp [B]
      unfold bG at s;rcases h1:(cM.setIfInBounds i true).getD p false with _|_<;>rcases g:cM.getD p false with _|_<;>rw [h1,g] at s<;>simp at s<;>simp [B]
    rw [ai];refine List.length_filter_lt_length_iff_exists.2 ⟨i, ?_,by simp⟩;simp only [List.mem_filter,List.mem_range];refine⟨u, ?_⟩;unfold bG at l;simp at l ⊢; exact l
   omega
  have R:∀p,ord ops p i->bG cM p:=fun p f=>C_ bn y hinv.rZ z f;have f:∀p,ord ops p i->bG bw p:=fun p f=>((hinv.lJ p).1 (R p f)).elim id fun⟨b,h⟩=>(Oa hinv q R p b h f).elim;by_cases c:∀p,rY ops fx p i->bG bw p
  ·refine N7 bn ea hS hinv y l z (fun p h=>h.elim (f p) (c p)) fun ak j' w' al C E=>?_;exact settle ea hS _ (Nat.le_refl _) E fun F G H I h1 g=>M _ F G H j' w' I C O h1 g
  ·have:(fx i).nu=true:=Classical.byContradiction fun c'=>c fun p f=>(c' f.2.1).elim;refine N8 bn ea hS hinv y l z f this fun w' C b E=>?_;exact settle ea hS _ (Nat.le_refl _) E fun F G H I h1 g=>M _ F G H j w' I C O h1 g
end
theorem aN.wp {P:Program}(hm:P.follows .mixedOrders=true){id:Nat}{l:List Oper}{n:Nat}{Q:St->Prop}{σ:St}(B:aN P l.toArray n l [] Q σ) (u:σ.n=n)
  {j:J}{w:World}{jl:List Nat}{a:Act}(g:gE j w jl σ a){y:Exit->Act->World->Prop}
  (hk:∀s j' w' q r,Q s->gE j' w' q s r->bN j w (aV j σ.h jl) j' w' (aV j' s.h q)->y .normal r w'):(Code.region id l.toArray true).wp P y a w:=by
 obtain⟨S,fx,v,h0,h1,C,E⟩:=B;have z:=N3 (ops:=l.toArray) (fx:=fx) (by simpa using C);have hS:∀k o,l.toArray[k]?=some o->_:=fun k o hk=>h1 k o (by simpa using hk);have hn:∀k,k<=l.toArray.size->(S k).n=n:=by
  intro k;induction k with
  | zero=>intro _; rw [h0,u]
  | succ k F=>intro hk; rw [(hS k _ (nG (by omega))).2.1]; exact F (by omega)
 refine wp_region_any hm ?_;refine Od (n:=n) (S:=S) (fx:=fx) (v:=v) (j0:=j) (w0:=w) (O0:=aV j σ.h jl) z.1 z.2 hS (fun j' w' q r G he _=>hk (S l.toArray.size) j' w' q r (by simpa using E) G he) hn _ _ (Array.replicate l.toArray.size false) [] (fun t=>a.tmps.getD t undef) j w.drew jl a ?_ ?_ (fun m b h=>by simp at h)
 ·have:=List.length_filter_le (fun i=>!(Array.replicate l.toArray.size false).getD i false) (List.range l.toArray.size)
  simpa using this
 ·have f:∀p,¬bG (Array.replicate l.toArray.size false) p:=by
   intro p h;unfold bG at h;rw [Array.getD_eq_getD_getElem?,Array.getElem?_replicate] at h
   split at h<;>simp at h
  refine⟨by simp,by simp,fun i=>⟨fun h=>(f i h).elim,fun h=>h.elim (fun h=>(f i h).elim) fun⟨b,h⟩=>by simp at h⟩,fun k h=>(f k h).elim,fun k h=>(f k h).elim,g.defers,by rw [g.size,u],fun _ _=>rfl,
   fun t=>⟨0,Nat.zero_le _,fun p _ _ _=>⟨fun h=>(f p h).elim,fun h=>by omega⟩, ?_⟩,
   ⟨0,0,Nat.zero_le _,Nat.zero_le _,fun p _ _=>⟨fun h=>(f p h).elim,fun h=>by omega⟩,fun p _ _=>⟨fun h=>(f p h).elim,fun h=>by omega⟩, ?_, ?_,fun m b h=>by simp at h⟩,.nil,fun m b h=>by simp at h⟩
  ·rw [h0]; exact(g.tmps t).mono (bN.drew j w (aV j σ.h jl)).toLe (Ext.refl _)
  ·rw [h0]; exact g.hl.drew
  ·rw [h0]; exact bN.drew _ _ _
end Go.Ab
