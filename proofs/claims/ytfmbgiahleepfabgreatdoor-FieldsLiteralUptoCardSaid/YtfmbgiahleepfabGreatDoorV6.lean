import Derived.Test.YtfmbgiahleepfabGreatDoorV5
import Derived.Test.YtfmbgiahleepfabGreatDoorRows
set_option maxRecDepth 100000
set_option maxHeartbeats 2000000
set_option linter.unusedVariables false
set_option linter.unusedSimpArgs false
namespace Go.Proofs
open Go Go.Ab
end Go.Proofs

namespace Go.Proofs
open Go Go.Ab
theorem filter_le {α:Type}{p q:α->Bool}{l:List α}(h:∀x∈l,p x=true->q x=true):(l.filter p).length<=(l.filter q).length:=by
 induction l with
 | nil=>simp
 | cons a r ih =>
  have:=ih fun x hx=>h x (List.mem_cons_of_mem _ hx);have h1:=h a List.mem_cons_self;simp only [List.filter_cons];cases hp:p a<;>cases hq:q a<;>simp_all<;>omega
theorem filter_lt {α:Type}{p q:α->Bool}{l:List α}{y:α}(h:∀x∈l,p x=true->q x=true) (hy:y∈l) (h1:p y=false) (h2:q y=true):(l.filter p).length<(l.filter q).length:=by
 induction l with
 | nil=>cases hy
 | cons a r ih =>
  have h3:=filter_le (l:=r) (p:=p) (q:=q) fun x hx=>h x (List.mem_cons_of_mem _ hx);simp only [List.filter_cons];rcases List.mem_cons.1 hy with rfl|hy
  ·simp [h1,h2]; omega
  ·have:=ih (fun x hx=>h x (List.mem_cons_of_mem _ hx)) hy;have h4:=h a List.mem_cons_self;cases hp:p a<;>cases hq:q a<;>simp_all<;>omega
theorem mem_insS {l:List Bs}{s t:Bs}(h:t∈l):t∈insS l s:=by unfold insS; split<;>simp [h]
theorem self_insS (l:List Bs) (s:Bs):s∈insS l s:=by
 unfold insS; split
 ·rename_i h; simpa using h
 ·simp
end Go.Proofs

namespace Go.Proofs
open Go Go.Ab
theorem cls_eq (x:Int):((((decide ((97:Int)<=x)&&decide (x<=(122:Int)))||(decide ((65:Int)<=x)&&decide (x<=(90:Int))))||(decide ((48:Int)<=x)&&decide (x<=(57:Int))))||decide (x=(95:Int)))=(Z42_q x||Z41_q x):=by
 unfold Z42_q Z41_q;rw [Bool.eq_iff_iff];simp only [Bool.or_eq_true,Bool.and_eq_true,decide_eq_true_eq];constructor
 ·rintro (((h|h)|h)|h)
  ·exact .inl (.inl (.inr h))
  ·exact .inl (.inl (.inl h))
  ·exact .inr h
  ·exact .inl (.inr h)
 ·rintro (((h|h)|h)|h)
  ·exact .inl (.inl (.inr h))
  ·exact .inl (.inl (.inl h))
  ·exact .inr h
  ·exact .inl (.inr h)
theorem nameAux:∀(l:List UInt8) (i:Nat),0<i->Z40_q10 l i=Z100_q12 l
 | [],_,_=>rfl
 | h::r,i,hi=>by
  have h0:decide (((i:Nat):Int)=0)=false:=decide_eq_false (by omega);rw [Z40_q10,Z100_q12,nameAux r (i+1) (by omega)];simp only [Ab.on,h0,cls_eq];cases Z42_q ((h.toNat:Nat):Int)
  ·simp only [Bool.not_false,Bool.and_self,cond_true,Bool.true_and,Bool.false_or]
  ·rfl
theorem letter_digit (x:Int) (h:Z42_q x=true):((decide ((48:Int)<=x))&&(decide (x<=(57:Int))))=false:=by
 unfold Z42_q at h;rw [Bool.and_eq_false_iff];simp only [Bool.or_eq_true,Bool.and_eq_true,decide_eq_true_eq] at h;by_cases h2:x<=57
 ·left; apply decide_eq_false; omega
 ·right; exact decide_eq_false h2
theorem name_eq (s:Bs):Z100_q s=some (Z40_q s):=by
 unfold Z100_q Z40_q;cases s with
 | nil=>rfl
 | cons h r =>
  have e0:((h::r:Bs)==[])=false:=rfl;have e1:decide ((((h::r:Bs).length:Nat):Int)<1)=false:=decide_eq_false (by simp only [List.length_cons]; omega);rw [e0,e1];simp only [Bool.false_or];cases decide ((64:Int)<(((h::r:Bs).length:Nat):Int))
  ·simp only [Bool.not_false,guardO,if_true,cond_false,Bool.true_and,Bool.false_or];rw [show ((h::r:Bs)[0]?)=some h from rfl];simp only [Option.bind_some];rw [Z40_q10,Z100_q12,nameAux r 1 (by omega)];simp only [Ab.on,cls_eq];generalize ((h.toNat:Nat):Int)=x;cases hl:Z42_q x
   ·have hd:Z41_q x=(decide ((48:Int)<=x)&&decide (x<=(57:Int))):=rfl;rw [hd];cases h4:decide ((48:Int)<=x)<;>cases h5:decide (x<=(57:Int))<;>simp [h5]
   ·have h9:=letter_digit x hl;cases h4:decide ((48:Int)<=x)<;>cases h5:decide (x<=(57:Int))<;>rw [h4,h5] at h9<;>simp [h5] at h9 ⊢<;>(cases Z100_q12 r<;>rfl)
  ·rfl
end Go.Proofs

namespace Go.Proofs
open Go Go.Ab
def Tk {C D:Type}(fx:C->D) (ln:C->Nat) (o:Option C) (c:C) (k:Nat):Prop:=∃c',o=some c'/\fx c'=fx c/\ln c'<=ln c+k
section
variable {C D:Type}{fx:C->D}{ln:C->Nat}{o:Option C}{c:C}{k m n:Nat}
theorem Tk.pure (c:C) (k:Nat):Tk fx ln (some c) c k:=⟨c,rfl,rfl,Nat.le_add_right _ _⟩
theorem Tk.map (h:Tk fx ln o c k):Tk fx ln (o.bind fun x=>some x) c k:=by
 obtain⟨c1,e1,h1⟩:=h; exact⟨c1,by rw [e1]; rfl,h1⟩
theorem Tk.cond {b:Bool}{x y:Option C}(h1:b=true->Tk fx ln x c k) (h2:b=false->Tk fx ln y c k):Tk fx ln (bif b then x else y) c k:=by
 cases b
 ·exact h2 rfl
 ·exact h1 rfl
theorem Tk.guard {α:Type}{b:Bool}{p:Option α}{d:α}{f:α->Option C}(hp:b=true->∃x,p=some x) (hf:∀x,Tk fx ln (f x) c k):Tk fx ln (guardO b p d f) c k:=by
 cases b
 ·exact hf d
 ·obtain⟨x,e⟩:=hp rfl; rw [e]; exact hf x
end
def unseenL (l:List Bs) (seen:List Bs):Nat:=(l.filter fun f=>!seen.contains f).length
theorem unseenL_le {l a b:List Bs}(h:∀s∈a,s∈b):unseenL l b<=unseenL l a:=filter_le fun x _ hp=>by
 simp at hp ⊢; exact fun h2=>hp (h _ h2)
theorem unseenL_lt {l a b:List Bs}(h:∀s∈a,s∈b){f:Bs}(hf:f∈l) (h1:f∉a) (h2:f∈b):unseenL l b<unseenL l a :=
 filter_lt (fun x _ hp=>by simp at hp ⊢; exact fun h2=>hp (h _ h2)) hf (by simpa using h2) (by simpa using h1)
theorem findS (s:Bs):∀l:List TDef,Z69_q7 s l=Sum.inl ()\/∃t∈l,Z69_q7 s l=Sum.inr (t,true)/\t.FName=s
 | []=>.inl rfl
 | a::r=>by
  rw [Z69_q7];simp only [Ab.on];cases h:(a.FName==s)
  ·rw [cond_false];rcases findS s r with h|⟨t,ht,e⟩
   ·exact .inl h
   ·exact .inr ⟨t,.tail _ ht,e⟩
  ·exact .inr ⟨a,.head _,rfl,eq_of_beq h⟩
theorem findS_mem {d:TDoc}{s:Bs}(h:(Z69_q d s).2=true):(Z69_q d s).1∈d.FDefs.l:=by
 unfold Z69_q at h ⊢;simp only [Ab.on] at h ⊢;rcases findS s d.FDefs.l with e|⟨t,ht,e,-⟩
 ·rw [e] at h; cases h
 ·rw [e]; exact ht
theorem loops_told (a1:TDef) (c:Z2):∀(n:Nat) (a0:TDef) (s:List Bs),unseenL (c.Fd.FDefs.l.map TDef.FName) s<n->∃b s',Z80_qn n a0 a1 c s=some (b,s')/\∀x∈s,x∈s'
 | 0,_,_,h=>by omega
 | n+1,a0,s,hn=>by
  have loop:∀(l:List Z6) (s:List Bs),unseenL (c.Fd.FDefs.l.map TDef.FName) s<=n->∃r,Z80_q7 a1 c (Z80_qn n) l s=some r/\match r with|Sum.inl s'=>∀x∈s,x∈s'|Sum.inr e=>∀x∈s,x∈e.2:=by
   intro l;induction l with
   | nil=>intro s _; exact⟨_,rfl,fun _ h=>h⟩
   | cons h r ih =>
    intro s hs;rw [Z80_q7];simp only [Ab.on];have hg:∃x:Int,guardO (!(!decide (((h.FType.FWraps.l.length:Nat):Int)=(1:Int)))) (h.FType.FWraps.l[0]?) (0:Int) (fun x=>some x)=some x:=by
     by_cases h1:h.FType.FWraps.l.length=1
     ·rw [show decide (((h.FType.FWraps.l.length:Nat):Int)=(1:Int))=true from decide_eq_true (by omega)];simp only [guardO,Bool.not_true,Bool.not_false,if_true];rw [List.getElem?_eq_getElem (show 0<h.FType.FWraps.l.length by omega)];exact⟨_,rfl⟩
     ·rw [show decide (((h.FType.FWraps.l.length:Nat):Int)=(1:Int))=false from decide_eq_false (by omega)];exact⟨_,rfl⟩
    have hgo:∀{K:Int->Option (List Bs ⊕ (Bool×List Bs))},(∀x,∃q,K x=some q/\match q with|Sum.inl s'=>∀x∈s,x∈s'|Sum.inr e=>∀x∈s,x∈e.2)->∃q,guardO (!(!decide (((h.FType.FWraps.l.length:Nat):Int)=(1:Int)))) (h.FType.FWraps.l[0]?) (0:Int) K=some q/\match q with|Sum.inl s'=>∀x∈s,x∈s'|Sum.inr e=>∀x∈s,x∈e.2:=by
     intro K hK;obtain⟨x,hx⟩:=hg;generalize h.FType.FWraps.l[0]?=p at hx ⊢;generalize (!(!decide (((h.FType.FWraps.l.length:Nat):Int)=(1:Int))))=b at hx ⊢;cases b
     ·exact hK 0
     ·cases p with
      | none=>cases hx
      | some y=>exact hK y
    refine hgo fun x20=>?_;cases (!decide (((h.FType.FWraps.l.length:Nat):Int)=(1:Int))||!decide (x20=(1:Int)))
    ·rw [cond_false];cases (h.FType.FName==a1.FName)
     ·rw [cond_false];cases hc:((Z69_q c.Fd h.FType.FName).2&&decide ((Z69_q c.Fd h.FType.FName).1.FKind=(5:Int)))&&!(s.contains (Z69_q c.Fd h.FType.FName).1.FName)
      ·rw [cond_false]; exact ih s hs
      ·rw [cond_true];simp only [Bool.and_eq_true,Bool.not_eq_true'] at hc;obtain⟨⟨hf,-⟩,hns⟩:=hc;have hm:=findS_mem hf;generalize (Z69_q c.Fd h.FType.FName).1=t at hm hns ⊢;have hsub:∀x∈s,x∈insS s t.FName:=fun x hx=>mem_insS hx;have hlt:=unseenL_lt (l:=c.Fd.FDefs.l.map TDef.FName) hsub (List.mem_map_of_mem hm) (by simpa using hns) (self_insS s t.FName);obtain⟨b,s',e,hs'⟩:=loops_told a1 c n t (insS s t.FName) (by omega)
       rw [e,Option.bind_some];cases b
       ·rw [cond_false];have hle:=unseenL_le (l:=c.Fd.FDefs.l.map TDef.FName) (a:=s) (b:=s') fun x hx=>hs' x (hsub x hx);obtain⟨q,hq,hq2⟩:=ih s' (by omega);refine⟨q,hq, ?_⟩;cases q with
        | inl s2=>exact fun x hx=>hq2 x (hs' x (hsub x hx))
        | inr e2=>exact fun x hx=>hq2 x (hs' x (hsub x hx))
       ·exact⟨_,rfl,fun x hx=>hs' x (hsub x hx)⟩
     ·exact⟨_,rfl,fun _ h=>h⟩
    ·rw [cond_true]; exact ih s hs
  rw [Z80_qn];obtain⟨q,e,hq⟩:=loop a0.FInputs.l s (by omega);rw [e,Option.bind_some];cases q with
  | inl s'=>exact⟨false,s',rfl,hq⟩
  | inr e2=>exact⟨e2.1,e2.2,rfl,hq⟩
theorem loops_top (c:Z2) (a1:TDef) (h:c.Fd.FDefs.l.length<=1048576):∃b,Z79_q c a1=some b:=by
 have hu:unseenL (c.Fd.FDefs.l.map TDef.FName) []<=c.Fd.FDefs.l.length:=by
  have:=List.length_filter_le (fun f=>!([]:List Bs).contains f) (c.Fd.FDefs.l.map TDef.FName)
  simpa [unseenL] using this
 obtain⟨b,s',e,-⟩:=loops_told a1 c F0 a1 [] (by rw [F0_eq]; omega);unfold Z79_q Z80_q;rw [e];exact⟨b,rfl⟩
abbrev SK (o:Option Z2) (c:Z2) (k:Nat):Prop:=Tk Z2.Fd (fun c=>c.Ffaults.l.length) o c k
theorem SKg {o:Option Z2}{c:Z2}{k:Nat}(h:SK o c k):∃c',o=some c'/\c'.Fd=c.Fd/\c'.Ffaults.l.length<=c.Ffaults.l.length+k:=h
theorem sadd {c:Z2}(h:c.Ffaults.l.length<=1000000000) (b:Bool) (e:Int) (s:Bs):SK (Z75_q c b e s) c 1:=by
 unfold Z75_q;refine Tk.cond (fun _=>?_) fun _=>Tk.pure c 1;rw [appC_ok (by decide) (by simp; omega),Option.bind_some];exact⟨_,rfl,rfl,by simp⟩
theorem sname {c:Z2}(h:c.Ffaults.l.length<=900000000) (n a:Bs) (m:List Bs):∃c',Z82_q c n a m=some (c',insS m n)/\c'.Fd=c.Fd/\c'.Ffaults.l.length<=c.Ffaults.l.length+2:=by
 unfold Z82_q;rw [name_eq,Option.bind_some];simp only [Ab.on];obtain⟨c1,e1,f1,l1⟩:=SKg (sadd (c:=c) (by omega) ((!Z40_q n)||bif !(!Z40_q n) then Z101_q n else false) 6 a);rw [e1,Option.bind_some];obtain⟨c2,e2,f2,l2⟩:=SKg (sadd (c:=c1) (by omega) (m.contains n) 7 a);rw [e2];exact⟨c2,rfl,f2.trans f1,by omega⟩
theorem styp {c:Z2}(h:c.Ffaults.l.length<=900000000) (n a:Bs) (k:Int):SK (Z83_q c n a k) c 1:=by
 unfold Z83_q;simp only [Ab.on];exact Tk.cond (fun _=>(sadd (by omega) _ _ _).map) fun _=>Tk.cond (fun _=>(sadd (by omega) _ _ _).map) fun _=>(sadd (by omega) _ _ _).map
theorem sinputs (a2 a3:Bs) (h2:a2.length<=4000000) (h3:a3.length<=4000000):∀(l:List Z6) (c:Z2) (m:List Bs),(∀x∈l,x.sz<=1048576)->c.Ffaults.l.length+3*l.length<=900000000->SK (Z78_q5 a2 a3 l c m) c (3*l.length)
 | [],c,_,_,_=>Tk.pure c _
 | x::r,c,m,hx,hb=>by
  have hs:=x.sz_def;have hz:=hx x (.head _);have hn:Bs.sz x.FName=x.FName.length+1:=rfl;simp only [List.length_cons] at hb ⊢;rw [Z78_q5];simp only [Ab.on];rw [catC_ok (by omega),Option.bind_some,catC_ok (by simp; omega),Option.bind_some];obtain⟨c1,e1,f1,l1⟩:=sname (c:=c) (by omega) x.FName ((a2++x.FName)++a3) m;rw [e1,Option.bind_some];obtain⟨c2,e2,f2,l2⟩:=SKg (styp (c:=c1) (by omega) x.FType.FName ((a2++x.FName)++a3) 1)
  rw [e2,Option.bind_some];obtain⟨c3,e3,f3,l3⟩:=SKg (sinputs a2 a3 h2 h3 r c2 (insS m x.FName) (fun y hy=>hx y (.tail _ hy)) (by omega));exact⟨c3,e3,f3.trans (f2.trans f1),by show c3.Ffaults.l.length<=c.Ffaults.l.length+_; omega⟩
end Go.Proofs

namespace Go.Proofs
open Go Go.Ab
theorem sinputs_top (c:Z2) (l:Sl Z6) (a2 a3:Bs) (h2:a2.length<=4000000) (h3:a3.length<=4000000) (hx:∀x∈l.l,x.sz<=1048576) (hb:c.Ffaults.l.length+3*l.l.length<=900000000):SK (Z78_q c l a2 a3) c (3*l.l.length):=by
 unfold Z78_q;exact(sinputs a2 a3 h2 h3 l.l c [] hx hb).map
theorem sfields (a1:TDef) (h1:a1.FName.length<=1048576):∀(l:List Z4) (c:Z2) (m:List Bs),(∀x∈l,x.sz<=1048576)->c.Ffaults.l.length+3*(l.map Z4.sz).sum<=900000000->SK (Z77_q6 a1 l c m) c (3*(l.map Z4.sz).sum)
 | [],c,_,_,_=>Tk.pure c _
 | x::r,c,m,hx,hb=>by
  have hs:=x.sz_def;have hz:=hx x (.head _);have hn:Bs.sz x.FName=x.FName.length+1:=rfl;have hl:=Sl.len_lt (f:=Z6.sz) x.FArgs Z6.pos;simp only [List.map_cons,List.sum_cons] at hb ⊢;rw [Z77_q6];simp only [Ab.on];rw [catC_ok (by simp; omega),Option.bind_some,catC_ok (by simp; omega),Option.bind_some];generalize hat:a1.FName++([46]:Bs)++x.FName=at_;have hal:at_.length<=2097154:=by rw [<- hat]; simp; omega
  obtain⟨c1,e1,f1,l1⟩:=sname (c:=c) (by omega) x.FName at_ m;rw [e1,Option.bind_some];obtain⟨c2,e2,f2,l2⟩:=SKg (styp (c:=c1) (by omega) x.FType.FName at_ 0);rw [e2,Option.bind_some,catC_ok (by simp; omega),Option.bind_some];obtain⟨c3,e3,f3,l3⟩:=SKg (sinputs_top c2 x.FArgs (at_++([40]:Bs)) ([41]:Bs) (by simp; omega) (by simp) (fun y hy=>by have:=Sl.mem_le (f:=Z6.sz) hy; omega) (by omega));rw [e3,Option.bind_some]
  obtain⟨c4,e4,f4,l4⟩:=SKg (sfields a1 h1 r c3 (insS m x.FName) (fun y hy=>hx y (.tail _ hy)) (by omega));exact⟨c4,e4,f4.trans (f3.trans (f2.trans f1)),by show c4.Ffaults.l.length<=c.Ffaults.l.length+_; omega⟩
theorem smembers (a1:TDef) (h1:a1.FName.length<=1048576):∀(l:List Z7) (c:Z2) (m:List Bs),(∀x∈l,x.sz<=1048576)->c.Ffaults.l.length+2*l.length<=900000000->SK (Z81_q6 a1 l c m) c (2*l.length)
 | [],c,_,_,_=>Tk.pure c _
 | x::r,c,m,hx,hb=>by
  have hs:=x.sz_def;have hz:=hx x (.head _);have hn:Bs.sz x.FName=x.FName.length+1:=rfl;simp only [List.length_cons] at hb ⊢;rw [Z81_q6];simp only [Ab.on];rw [catC_ok (by simp; omega),Option.bind_some,catC_ok (by simp; omega),Option.bind_some];refine Tk.guard (fun _=>⟨_,name_eq _⟩) fun x21=>?_;obtain⟨c1,e1,f1,l1⟩:=SKg (sadd (c:=c) (by omega) ((((((x.FName==([116,114,117,101]:Bs)))||((x.FName==([102,97,108,115,101]:Bs))))||((x.FName==([110,117,108,108]:Bs))))||(!x21))||bif !(((((x.FName==([116,114,117,101]:Bs)))||((x.FName==([102,97,108,115,101]:Bs))))||((x.FName==([110,117,108,108]:Bs))))||(!x21)) then Z101_q x.FName else false) 6 (a1.FName++([46]:Bs)++x.FName))
  rw [e1,Option.bind_some];obtain⟨c2,e2,f2,l2⟩:=SKg (sadd (c:=c1) (by omega) (m.contains x.FName) 7 (a1.FName++([46]:Bs)++x.FName));rw [e2,Option.bind_some];obtain⟨c3,e3,f3,l3⟩:=SKg (smembers a1 h1 r c2 (insS m x.FName) (fun y hy=>hx y (.tail _ hy)) (by omega));exact⟨c3,e3,f3.trans (f2.trans f1),by show c3.Ffaults.l.length<=c.Ffaults.l.length+_; omega⟩
end Go.Proofs

namespace Go.Proofs
open Go Go.Ab
def TkP (o:Option (Z2×List Bs)) (c:Z2) (k:Nat):Prop:=∃c' m',o=some (c',m')/\c'.Fd=c.Fd/\c'.Ffaults.l.length<=c.Ffaults.l.length+k
theorem TkP.bind {o:Option Z2}{f:Z2->Option (Z2×List Bs)}{c:Z2}{k m n:Nat}(h:SK o c k) (hn:k+m<=n) (hf:∀c',c'.Fd=c.Fd->c'.Ffaults.l.length<=c.Ffaults.l.length+k->TkP (f c') c' m):TkP (o.bind f) c n:=by
 obtain⟨c1,e1,f1,l1⟩:=SKg h;obtain⟨c2,m2,e2,f2,l2⟩:=hf c1 f1 l1;exact⟨c2,m2,by rw [e1]; exact e2,f2.trans f1,by omega⟩
theorem TkP.guard {α:Type}{b:Bool}{p:Option α}{d:α}{f:α->Option (Z2×List Bs)}{c:Z2}{k:Nat}(hp:b=true->∃x,p=some x) (hf:∀x,TkP (f x) c k):TkP (guardO b p d f) c k:=by
 cases b
 ·exact hf d
 ·obtain⟨x,e⟩:=hp rfl; rw [e]; exact hf x
theorem TkP.cond {b:Bool}{x y:Option (Z2×List Bs)}{c:Z2}{k:Nat}(h1:TkP x c k) (h2:TkP y c k):TkP (bif b then x else y) c k:=by
 cases b
 ·exact h2
 ·exact h1
theorem TkP.pair {o:Option Z2}{c:Z2}{k n:Nat}(h:SK o c k) (hn:k<=n) (M:List Bs):TkP (o.bind fun x=>some (x,M)) c n:=by
 obtain⟨c1,e1,f1,l1⟩:=SKg h;exact⟨c1,M,by rw [e1]; rfl,f1,by omega⟩
theorem drop_nextS {α:Type}{l r:List α}{i:Nat}{x:α}(h:l.drop i=x::r):l.drop (i+1)=r/\l[i]?=some x:=by
 refine⟨?_,by have:=congrArg (fun t=>t[0]?) h; simpa using this⟩;have:=congrArg (List.drop 1) h
 simpa [List.drop_drop] using this
theorem sdef {d:TDoc}{t:TDef}{i:Nat}(ht:d.FDefs.l[i]?=some t) (hz:t.sz<=1048576) (hdl:d.FDefs.l.length<=1048576) (c:Z2) (hd:c.Fd=d) (m:List Bs) (hb:c.Ffaults.l.length+(5+3*t.sz)<=900000000):TkP (Z76_q c (i:Int) m) c (5+3*t.sz):=by
 have hs:=t.sz_def;have hn:Bs.sz t.FName=t.FName.length+1:=rfl;have hf:(t.FFields.l.map Z4.sz).sum+1=Sl.sz Z4.sz t.FFields:=by unfold Sl.sz; omega
 have hm:=Sl.len_lt (f:=Z7.sz) t.FMembers Z7.pos;have hi:=Sl.len_lt (f:=Z6.sz) t.FInputs Z6.pos;unfold Z76_q;have hidx:idxC c.Fd.FDefs.l (i:Int)=some t:=by rw [hd]; unfold idxC; rw [if_pos (by simp),Int.toNat_natCast,ht]
 rw [hidx,Option.bind_some,name_eq,Option.bind_some];simp only [Ab.on];refine TkP.bind (k:=1) (m:=4+3*t.sz) (sadd (by omega) _ _ _) (by omega) fun c1 f1 l1=>?_;refine TkP.bind (k:=1) (m:=3+3*t.sz) (sadd (by omega) _ _ _) (by omega) fun c2 f2 l2=>?_;refine TkP.bind (k:=1) (m:=2+3*t.sz) (sadd (by omega) _ _ _) (by omega) fun c3 f3 l3=>?_;refine TkP.bind (k:=1) (m:=1+3*t.sz) (sadd (by omega) _ _ _) (by omega) fun c4 f4 l4=>?_
 refine TkP.guard (fun _=>loops_top c4 t (by rw [f4,f3,f2,f1,hd]; exact hdl)) fun x20=>?_;refine TkP.bind (k:=1) (m:=3*t.sz) (sadd (by omega) _ _ _) (by omega) fun c5 f5 l5=>?_;refine TkP.cond ?_ (TkP.cond ?_ (TkP.cond ?_ ⟨c5,_,rfl,rfl,by omega⟩))
 ·refine TkP.pair (k:=3*(t.FFields.l.map Z4.sz).sum) ?_ (by omega) _;unfold Z77_q;exact(sfields t (by omega) t.FFields.l c5 [] (fun y hy=>by have:=Sl.mem_le (f:=Z4.sz) hy; omega) (by omega)).map
 ·refine TkP.pair (k:=2*t.FMembers.l.length) ?_ (by omega) _;unfold Z81_q;exact(smembers t (by omega) t.FMembers.l c5 [] (fun y hy=>by have:=Sl.mem_le (f:=Z7.sz) hy; omega) (by omega)).map
 ·rw [catC_ok (by simp; omega),Option.bind_some];exact TkP.pair (sinputs_top c5 t.FInputs _ _ (by simp; omega) (by simp) (fun y hy=>by have:=Sl.mem_le (f:=Z6.sz) hy; omega) (by omega)) (by omega) _
theorem scheck_loop {d:TDoc}(hz:∀t∈d.FDefs.l,t.sz<=1048576) (hdl:d.FDefs.l.length<=1048576):∀(l:List TDef) (i:Nat) (c:Z2) (m:List Bs),d.FDefs.l.drop i=l->c.Fd=d->c.Ffaults.l.length+(5*l.length+3*(l.map TDef.sz).sum)<=900000000->SK (Z66_q20 l i c m) c (5*l.length+3*(l.map TDef.sz).sum)
 | [],i,c,m,_,_,_=>Tk.pure c _
 | t::r,i,c,m,hl,hd,hb=>by
  obtain⟨t1,t2⟩:=drop_nextS hl;simp only [List.length_cons,List.map_cons,List.sum_cons] at hb ⊢;rw [Z66_q20];obtain⟨c1,m1,e1,f1,l1⟩:=sdef t2 (hz t (List.mem_of_getElem? t2)) hdl c hd m (by omega);rw [e1,Option.bind_some];obtain⟨c2,e2,f2,l2⟩:=SKg (scheck_loop hz hdl r (i+1) c1 m1 t1 (f1.trans hd) (by omega));exact⟨c2,e2,f2.trans f1,by show c2.Ffaults.l.length<=c.Ffaults.l.length+_; omega⟩
theorem schema_check_tot {d:TDoc}(hd:d.sz<=1048576) (b:Bool):∃l,Z66_q d b=some l:=by
 have h1:=d.sz_def;have h2:Sl.sz TDef.sz d.FDefs=1+(d.FDefs.l.map TDef.sz).sum:=rfl;have h3:=Sl.len_lt (f:=TDef.sz) d.FDefs TDef.pos;obtain⟨c,e,f,l⟩:=SKg (scheck_loop (d:=d) (fun t ht=>by have:=Sl.mem_le (f:=TDef.sz) ht; omega) (by omega) d.FDefs.l 0 (Z2.mk d (Sl.nil:Sl Z3)) [] rfl rfl (by show 0+_<=_; omega));have l:c.Ffaults.l.length<=0+(5*d.FDefs.l.length+3*(d.FDefs.l.map TDef.sz).sum):=l;unfold Z66_q
 rw [e,Option.bind_some];simp only [Ab.on];cases (b&&!(Z69_q d ([81,117,101,114,121]:Bs)).2)
 ·exact⟨_,rfl⟩
 ·obtain⟨c2,e2,_⟩:=SKg (sadd (c:=c) (by omega) true 30 ([81,117,101,114,121]:Bs));rw [cond_true,e2];exact⟨_,rfl⟩
end Go.Proofs

namespace Go.Proofs
open Go Go.Ab
def Ps {A C D:Type}(fx:C->D) (ln:C->Nat) (pr:A->C) (o:Option A) (c:C) (P:Prop):Prop:=∀a,o=some a->fx (pr a)=fx c/\ln c<=ln (pr a)/\(ln (pr a)=ln c->P)
section
variable {A B C D:Type}{fx:C->D}{ln:C->Nat}{pr:A->C}{pb:B->C}{o:Option A}{c:C}{P Q R:Prop}
theorem Ps.mono (h:Ps fx ln pr o c P) (hr:P->R):Ps fx ln pr o c R:=fun a e=>by obtain⟨h1,h2,h3⟩:=h a e; exact⟨h1,h2,fun x=>hr (h3 x)⟩
theorem Ps.pure {a:A}(h:pr a=c) (hp:P):Ps fx ln pr (some a) c P:=fun x e=>by cases e; rw [h]; exact⟨rfl,Nat.le_refl _,fun _=>hp⟩
theorem Ps.bind {f:A->Option B}(h:Ps fx ln pr o c P) (hr:P->Q->R) (hf:∀a,o=some a->fx (pr a)=fx c->Ps fx ln pb (f a) (pr a) Q):Ps fx ln pb (o.bind f) c R:=fun b e=>by
 cases ho:o with
 | none=>rw [ho] at e; cases e
 | some a =>
  rw [ho] at e;obtain⟨h1,h2,h3⟩:=h a ho;obtain⟨g1,g2,g3⟩:=hf a ho h1 b e;exact⟨g1.trans h1,Nat.le_trans h2 g2,fun x=>hr (h3 (by omega)) (g3 (by omega))⟩
theorem Ps.any {X:Type}{p:Option X}{f:X->Option A}(hf:∀x,p=some x->Ps fx ln pr (f x) c P):Ps fx ln pr (p.bind f) c P:=fun a e=>by
 cases hp:p with
 | none=>rw [hp] at e; cases e
 | some x=>rw [hp] at e; exact hf x hp a e
theorem Ps.guard {X:Type}{b:Bool}{p:Option X}{d:X}{f:X->Option A}(hf:∀x,Ps fx ln pr (f x) c P):Ps fx ln pr (guardO b p d f) c P:=by
 cases b
 ·exact hf d
 ·exact Ps.any fun x _=>hf x
theorem Ps.cond {b:Bool}{x y:Option A}(h1:b=true->Ps fx ln pr x c P) (h2:b=false->Ps fx ln pr y c P):Ps fx ln pr (bif b then x else y) c P:=by
 cases b
 ·exact h2 rfl
 ·exact h1 rfl
end
theorem len_appC {α:Type}{z:Nat}{s r x:Sl α}(h:appC z s r=some x):x.l.length=s.l.length+r.l.length:=by rw [(appC_some h).1]; simp
abbrev SP (o:Option Z2) (c:Z2) (P:Prop):Prop:=Ps Z2.Fd (fun c=>c.Ffaults.l.length) id o c P
abbrev SPp (o:Option (Z2×List Bs)) (c:Z2) (P:Prop):Prop:=Ps Z2.Fd (fun c=>c.Ffaults.l.length) Prod.fst o c P
theorem paddS (c:Z2) (b:Bool) (e:Int) (s:Bs):SP (Z75_q c b e s) c (b=false):=by
 unfold Z75_q;cases b
 ·exact Ps.pure rfl rfl
 ·rw [cond_true];intro a ha;cases h:appC 24 c.Ffaults ⟨false,[Z3.mk e s]⟩ with
  | none=>rw [h] at ha; cases ha
  | some v =>
   have hv:=len_appC h;rw [h] at ha; cases ha;simp only [List.length_singleton] at hv;exact⟨rfl,by show c.Ffaults.l.length<=v.l.length; omega,fun e=>absurd (show v.l.length=c.Ffaults.l.length from e) (by omega)⟩
theorem pname (c:Z2) (n a:Bs) (m:List Bs):SPp (Z82_q c n a m) c True:=by
 unfold Z82_q;refine Ps.any fun x _=>?_;simp only [Ab.on];refine Ps.bind (paddS _ _ _ _) (Q:=True) (fun _ _=>trivial) fun c1 _ _=>?_;refine Ps.bind (paddS _ _ _ _) (Q:=True) (fun _ _=>trivial) fun c2 _ _=>?_;exact Ps.pure rfl trivial
def OutOk (d:TDoc) (n:Bs):Prop:=Z74_q n=true\/((Z69_q d n).2=true/\Z84_q d n≠5)
def InOkP (d:TDoc) (n:Bs):Prop:=Z71_q d n=true
theorem ptyp (c:Z2) (n a:Bs) (k:Int):SP (Z83_q c n a k) c ((k=0->OutOk c.Fd n)/\(k≠0->InOkP c.Fd n)):=by
 unfold Z83_q;simp only [Ab.on];refine Ps.cond (fun _=>?_) fun h1=>Ps.cond (fun h2=>?_) fun h2=>?_
 ·exact Ps.bind (paddS _ _ _ _) (Q:=True) (fun h _=>by cases h) fun c1 _ _=>Ps.pure rfl trivial
 ·have hk:=of_decide_eq_true h2;refine Ps.bind (paddS _ _ _ _) (Q:=True) (fun h _=>⟨fun _=>?_,fun h3=>absurd hk h3⟩) fun c1 _ _=>Ps.pure rfl trivial;unfold OutOk
  revert h h1
  cases Z74_q n
  ·cases (Z69_q c.Fd n).2
   ·intro h1 _; simp at h1
   ·intro _ h; right; simpa using h
  ·exact fun _ _=>.inl rfl
 ·have hk:=of_decide_eq_false h2;refine Ps.bind (paddS _ _ _ _) (Q:=True) (fun h _=>⟨fun h3=>absurd h3 hk,fun _=>?_⟩) fun c1 _ _=>Ps.pure rfl trivial;unfold InOkP; simpa using h
theorem pinputs (a2 a3:Bs):∀(l:List Z6) (c:Z2) (m:List Bs),SP (Z78_q5 a2 a3 l c m) c (∀x∈l,InOkP c.Fd x.FType.FName)
 | [],c,m=>Ps.pure rfl fun _ h=>by cases h
 | x::r,c,m=>by
  rw [Z78_q5];simp only [Ab.on];refine Ps.any fun y _=>Ps.any fun z _=>?_;refine Ps.bind (pname _ _ _ _) (Q:=∀y∈x::r,InOkP c.Fd y.FType.FName) (fun _ h=>h) fun c1 _ f1=>?_;refine Ps.bind (ptyp _ _ _ _) (Q:=∀y∈r,InOkP c.Fd y.FType.FName) (fun h h2 y hy=>?_) fun c2 _ f2=>?_
  ·rcases List.mem_cons.1 hy with rfl|hy
   ·have:=h.2 (by decide); rw [f1] at this; exact this
   ·exact h2 y hy
  ·have:=pinputs a2 a3 r c2 c1.2;rw [show c2.Fd=c.Fd from f2.trans f1] at this;exact this
theorem pfields (a1:TDef):∀(l:List Z4) (c:Z2) (m:List Bs),SP (Z77_q6 a1 l c m) c (∀x∈l,OutOk c.Fd x.FType.FName)
 | [],c,m=>Ps.pure rfl fun _ h=>by cases h
 | x::r,c,m=>by
  rw [Z77_q6];simp only [Ab.on];refine Ps.any fun y _=>Ps.any fun z _=>?_;refine Ps.bind (pname _ _ _ _) (Q:=∀y∈x::r,OutOk c.Fd y.FType.FName) (fun _ h=>h) fun c1 _ f1=>?_;refine Ps.bind (ptyp _ _ _ _) (Q:=∀y∈r,OutOk c.Fd y.FType.FName) (fun h h2 y hy=>?_) fun c2 _ f2=>?_
  ·rcases List.mem_cons.1 hy with rfl|hy
   ·have:=h.1 rfl; rw [f1] at this; exact this
   ·exact h2 y hy
  ·refine Ps.any fun w _=>?_;unfold Z78_q;refine Ps.bind (Ps.bind (pinputs _ _ _ _ _) (fun _ h=>h) fun c4 _ _=>Ps.pure rfl trivial) (Q:=∀y∈r,OutOk c.Fd y.FType.FName) (fun _ h=>h) fun c3 _ f3=>?_;have:=pfields a1 r c3 c1.2;rw [show c3.Fd=c.Fd from f3.trans (f2.trans f1)] at this;exact this
theorem pmembers (a1:TDef):∀(l:List Z7) (c:Z2) (m:List Bs),SP (Z81_q6 a1 l c m) c True
 | [],c,m=>Ps.pure rfl trivial
 | x::r,c,m=>by
  rw [Z81_q6];simp only [Ab.on];refine Ps.any fun y _=>Ps.any fun z _=>Ps.guard fun w=>?_;refine Ps.bind (paddS _ _ _ _) (Q:=True) (fun _ _=>trivial) fun c1 _ _=>?_;refine Ps.bind (paddS _ _ _ _) (Q:=True) (fun _ _=>trivial) fun c2 _ _=>?_;exact pmembers a1 r c2 _
end Go.Proofs

namespace Go.Proofs
open Go Go.Ab
def bB:Nat:=549755813888
def Wv:Nat->Z9->Prop
 | 0,_=>False
 | n+1,v=>(-9223372036854775808<=v.FInt/\v.FInt<=9223372036854775807)/\(v.FKeys.nl=true->v.FKeys.l=[])/\v.FKeys.l.length<=bB/\v.FItems.l.length<=bB/\∀x∈v.FItems.l,Wv n x
theorem Wv.mono:∀{n m:Nat}{v:Z9},n<=m->Wv n v->Wv m v
 | 0,_,_,_,h=>h.elim
 | n+1,0,_,hn,_=>by omega
 | n+1,m+1,v,hn,⟨a,b,c,d,e⟩=>⟨a,b,c,d,fun x hx=>Wv.mono (by omega) (e x hx)⟩
theorem appC80 {α:Type}{s r:Sl α}(h:s.l.length+r.l.length<=1099511627776):appC 80 s r=some ⟨s.nl&&r.l.isEmpty,s.l++r.l⟩:=by
 unfold appC; rw [if_pos];have:(s.l.length+r.l.length)*80<=1099511627776*80:=Nat.mul_le_mul_right _ h;unfold maxN; omega
theorem cloneS_eq {s:Sl Bs}(h:s.nl=true->s.l=[]) (hl:s.l.length<=bB):∃r,Z86_q s=some r/\r.l=s.l/\(r.nl=true->r.l=[]):=by
 unfold Z86_q;unfold bB at hl;cases hn:s.nl with
 | true=>exact⟨Sl.nil,rfl,(h hn).symm,fun _=>rfl⟩
 | false=>rw [cond_false,appC_ok32 (by omega) (by simp; omega)]; exact⟨_,rfl,by simp,fun e=>by simp at e⟩
theorem copy_tot:∀(n:Nat){v:Z9},Wv n v->∀m,2*n<=m->∃r,value_Copy_qn m v=some r/\Wv n r/\r.FKind=v.FKind
 | 0,_,h,_,_=>h.elim
 | n+1,v,⟨h2,h5,h6,h7,h9⟩,m,hm=>by
  obtain⟨m1,rfl⟩:∃m1,m=m1+1+1:=⟨m-2,by omega⟩;have hl:∀(l:List Z9) (s:Sl Z9),(∀x∈l,Wv n x)->(∀x∈s.l,Wv n x)->s.l.length+l.length<=bB->∃s':Sl Z9,Z110_q8 (value_Copy_qn m1) l s=some s'/\(∀x∈s'.l,Wv n x)/\s'.l.length=s.l.length+l.length:=by
   intro l;induction l with
   | nil=>intro s _ hs _; exact⟨s,rfl,hs,rfl⟩
   | cons a t ih =>
    intro s hl hs hb;obtain⟨r,hr,hr',-⟩:=copy_tot n (hl a (.head _)) m1 (by omega);rw [Z110_q8];simp only [Ab.on,hr,Option.bind_some];simp only [List.length_cons] at hb;rw [appC80 (by unfold bB at hb; simp; omega),Option.bind_some];obtain⟨s',e1,e2,e3⟩:=ih ⟨s.nl&&[r].isEmpty,s.l++[r]⟩ (fun x hx=>hl x (.tail _ hx)) (fun x hx=>by
     rcases List.mem_append.1 hx with hx|hx
     ·exact hs x hx
     ·rw [List.mem_singleton.1 hx]; exact hr') (by simp; omega)
    exact⟨s',e1,e2,by rw [e3]; simp; omega⟩
  obtain⟨s',e1,e2,e0⟩:=hl v.FItems.l Sl.nil h9 (fun _ h=>by cases h) (by simpa [Sl.nil] using h7);obtain⟨k,e3,e4,e5⟩:=cloneS_eq h5 h6;rw [value_Copy_qn,Z110_qn,e1,Option.bind_some];simp only [Ab.on,Option.bind_some,e3];refine⟨_,rfl,⟨h2,e5, ?_, ?_,e2⟩,rfl⟩
  ·show k.l.length<=_; rw [e4]; exact h6
  ·show s'.l.length<=_; rw [e0]; simpa [Sl.nil] using h7
theorem copy_ok {n:Nat}(hn:n<=1073741824){v:Z9}(h:Wv n v):∃r,value_Copy_q v=some r/\Wv n r/\r.FKind=v.FKind:=copy_tot n h F0 (by rw [F0_eq]; omega)
theorem Wv.of:∀(n:Nat) (v:Z9),v.sz<=n->v.sz<=1048576->v.wf->Wv n v
 | 0,v,h,_,_=>by have:=Z9.pos v; omega
 | n+1,v,h,h2,hw=>by
  have h1:=v.sz_def;have h3:=Sl.len_le (f:=Z9.sz) v.FItems (fun x=>Z9.pos x);have h4:=Sl.len_le (f:=Bs.sz) v.FKeys (fun x=>Bs.sz_pos x);refine⟨?_, ?_, ?_, ?_,fun x hx=>?_⟩
  ·have:=Z9.FInt_wf hw; unfold i64 at this; omega
  ·exact(Z9.FKeys_wf hw).1
  ·unfold bB; omega
  ·unfold bB; omega
  ·have h5:=Sl.mem_le (f:=Z9.sz) hx;exact Wv.of n x (by omega) (by omega) ((Z9.FItems_wf hw).2.2 x hx)
end Go.Proofs

namespace Go.Proofs
open Go Go.Ab
def zvT:Z9:=Z9.mk (0:Int) (0:Int) ([]:Bs) true ([]) (Sl.nil:Sl Bs)
theorem zvT_w:Wv 1 zvT:=⟨⟨by decide,by decide⟩,fun _=>rfl,by show 0<=_; omega,by show 0<=_; omega,fun _ h=>by cases h⟩
theorem get_tot {n:Nat}{v:Z9}(h:Wv (n+1) v) (hn:n<=1073741824) (s:Bs):∃x b,Z108_q v s=some (x,b)/\((b=true/\Wv n x)\/(b=false/\x=zvT)):=by
 unfold Z108_q;simp only [Ab.on];generalize Z96_q v.FKeys s=i;cases hc:(((!decide (v.FKind=(6:Int)))||(decide (i<(0:Int))))||(decide (((v.FItems.l.length:Nat):Int)<=i)))
 ·simp only [Bool.or_eq_false_iff,decide_eq_false_iff_not] at hc;obtain⟨⟨-,h0⟩,h1⟩:=hc;have hi:i.toNat<v.FItems.l.length:=by omega
  have hidx:idxC v.FItems.l i=some (v.FItems.l[i.toNat]):=by
   unfold idxC; rw [if_pos (by omega),List.getElem?_eq_getElem hi]
  obtain⟨r,h2,h3,-⟩:=copy_ok hn (h.2.2.2.2 _ (List.getElem_mem hi));rw [cond_false,hidx,Option.bind_some,h2];exact⟨r,true,rfl,.inl ⟨rfl,h3⟩⟩
 ·exact⟨zvT,false,rfl,.inr ⟨rfl,rfl⟩⟩
theorem missing_tot {n:Nat}{c:Z0}(h:Wv (n+1) c.Fvars) (hn:n<=1073741824) (v:Z9):∃b,Z16_q c v=some b:=by
 unfold Z16_q;cases ((!decide (v.FKind=(7:Int)))||(!c.Fliteral))
 ·obtain⟨x,b,e,-⟩:=get_tot h hn v.FText;rw [cond_false,e]; exact⟨_,rfl⟩
 ·exact⟨_,rfl⟩
def Cq (c c':Z0) (e:Int):Prop:=c'.Fd=c.Fd/\c'.Fvars=c.Fvars/\c'.Fliteral=c.Fliteral/\0<=c'.Fnodes/\(e=0->c'.Fnodes<=4096)
def Cs (c:Z0):Prop:=0<=c.Fnodes/\c.Fnodes<=4096
theorem Cq.trans {a b c:Z0}{e e':Int}(h:Cq a b e) (h':Cq b c e'):Cq a c e':=⟨h'.1.trans h.1,h'.2.1.trans h.2.1,h'.2.2.1.trans h.2.2.1,h'.2.2.2.1,h'.2.2.2.2⟩
theorem count_tot12 {c:Z0}(h:Cs c) (l:Int):∃e c',Z13_q c l=some (e,c')/\Cq c c' e/\(e=0->l<=24):=by
 unfold Z13_q;unfold Cs at h;by_cases hl:24<l
 ·rw [decide_eq_true hl];exact⟨5,c,rfl,⟨rfl,rfl,rfl,h.1,fun h=>by cases h⟩,fun h=>by cases h⟩
 ·rw [decide_eq_false hl,cond_false,addC_ok (by omega),Option.bind_some];by_cases h4:4096<c.Fnodes+1
  ·rw [decide_eq_true h4];exact⟨4,_,rfl,⟨rfl,rfl,rfl,by show 0<=c.Fnodes+1; omega,fun h=>by cases h⟩,fun h=>by cases h⟩
  ·rw [decide_eq_false h4];exact⟨0,_,rfl,⟨rfl,rfl,rfl,by show 0<=c.Fnodes+1; omega,fun _=>by show c.Fnodes+1<=4096; omega⟩,fun _=>by omega⟩
theorem whole_tot:∀(n:Nat) (c:Z0) (v:Z9) (l:Int),Cs c -> -1000<=l->(25-l)<(n:Int)->0<n->∃e c',Z19_qn n c v l=some (e,c')/\Cq c c' e
 | 0,_,_,_,_,_,_,h=>by omega
 | n+1,c,v,l,hc,h0,hn,_=>by
  obtain⟨e,c1,h1,h2,h3⟩:=count_tot12 hc l;rw [Z19_qn,h1,Option.bind_some];by_cases he:e=0
  ·have hl:=h3 he;rw [decide_eq_true he,Bool.not_true,cond_false];have loop:∀(t:List Z9) (b:Z0),Cs b->∃o,Z19_q13 l (Z19_qn n) t b=some o/\(match o with|Sum.inl c'=>Cq b c' 0|Sum.inr p=>Cq b p.2 p.1):=by
    intro t;induction t with
    | nil=>intro b hb; exact⟨_,rfl,⟨rfl,rfl,rfl,hb.1,fun _=>hb.2⟩⟩
    | cons x r ih =>
     intro b hb;rw [Z19_q13];simp only [Ab.on];rw [addC_ok (by omega),Option.bind_some];obtain⟨e2,c2,g1,g2⟩:=whole_tot n b x (l+1) hb (by omega) (by omega) (by omega);rw [g1,Option.bind_some];by_cases he2:e2=0
     ·rw [decide_eq_true he2,Bool.not_true,cond_false];obtain⟨o,o1,o2⟩:=ih c2 ⟨g2.2.2.2.1,g2.2.2.2.2 he2⟩;refine⟨o,o1, ?_⟩;cases o with
      | inl c'=>exact g2.trans o2
      | inr p=>exact g2.trans o2
     ·rw [decide_eq_false he2];exact⟨_,rfl,g2⟩
   obtain⟨o,o1,o2⟩:=loop v.FItems.l c1 ⟨h2.2.2.2.1,h2.2.2.2.2 he⟩;rw [o1,Option.bind_some];cases o with
   | inl c'=>exact⟨0,c',rfl,h2.trans o2⟩
   | inr p=>exact⟨p.1,p.2,rfl,h2.trans o2⟩
  ·rw [decide_eq_false he];exact⟨e,c1,rfl,h2⟩
end Go.Proofs

namespace Go.Proofs
open Go Go.Ab
theorem dlen:∀(f u:Nat),u<10 ^ f->(Lib.decDigits u).length<=f+1:=by
 intro f;induction f with
 | zero =>
  intro u hu;have:u=0:=by simpa using hu
  subst this; rw [Lib.decDigits]; simp
 | succ f ih =>
  intro u hu;rw [Lib.decDigits]
  split
  ·simp
  ·have:=ih (u / 10) (by rw [Nat.pow_succ] at hu; omega);simp; omega
theorem dlen20 {u:Nat}(h:u<=9223372036854775808):(Lib.decDigits u).length<=21:=dlen 20 u (by omega)
theorem itoaLen {n:Int}(h0 : -9223372036854775808<=n) (h1:n<=9223372036854775807):(Lib.itoa n).length<=22:=by
 unfold Lib.itoa
 split
 ·have:=dlen20 (u:=n.natAbs) (by omega); simp; omega
 ·have:=dlen20 (u:=n.toNat) (by omega); omega
theorem decimal_ok {n:Int}(h0 : -9223372036854775808<=n) (h1:n<=9223372036854775807):∃r,Z99_q n=some r:=by
 unfold Z99_q Z97_q Z97;rw [if_pos ⟨h0,h1,by have:=itoaLen h0 h1; unfold maxS; omega⟩];exact⟨_,rfl⟩
theorem Wv.kind {n:Nat}{v:Z9}(h:Wv (n+1) v) (k:Int):Wv (n+1) ⟨k,v.FInt,v.FText,v.FItems.nl,v.FItems.l,v.FKeys⟩:=h
theorem Wv.text (n:Nat) (s:Bs):Wv (n+1) (Z109_q s):=⟨⟨by show (-9223372036854775808:Int)<=0; decide,by show (0:Int)<=9223372036854775807; decide⟩,fun _=>rfl,by show 0<=_; omega,by show 0<=_; omega,fun _ h=>by cases h⟩
theorem leaf_tot {n:Nat}{v:Z9}(h:Wv (n+1) v) (c:Z0) (nm:Bs):∃x e,Z14_q c nm v=some (x,e)/\Wv (n+1) x:=by
 have z:Wv (n+1) zvT:=zvT_w.mono (by omega);have fin:∀(b:Bool) (x:Z9),Wv (n+1) x->∃y e,(bif (!b) then(some (zvT,(23:Int))) else(some (x,(0:Int))))=some (y,e)/\Wv (n+1) y:=by
  intro b x hx;cases b
  ·exact⟨zvT,23,rfl,z⟩
  ·exact⟨x,0,rfl,hx⟩
 unfold Z14_q;simp only [Ab.on];cases (nm==([73,110,116]:Bs))
 ·cases (nm==([83,116,114,105,110,103]:Bs))
  ·cases (nm==([66,111,111,108,101,97,110]:Bs))
   ·cases (nm==([73,68]:Bs))
    ·simp only [cond_false];have last:∀(w:Z9) (b:Bool),Wv (n+1) w->∃y e,(bif (!b) then(some (zvT,(23:Int))) else(some (w,(0:Int))))=some (y,e)/\Wv (n+1) y:=fun w b hw=>fin b w hw;cases (decide (v.FKind=(3:Int))&&(!c.Fliteral))
     ·exact last v _ h
     ·exact last _ _ (h.kind 4)
    ·simp only [cond_false,cond_true];cases decide (v.FKind=(2:Int))
     ·exact fin _ v h
     ·obtain⟨r,hr⟩:=decimal_ok h.1.1 h.1.2;rw [cond_true,hr,Option.bind_some,Option.bind_some];exact fin _ _ (Wv.text n r)
   ·exact fin _ v h
  ·exact fin _ v h
 ·exact fin _ v h
end Go.Proofs

namespace Go.Proofs
open Go Go.Ab
def lvM (N:Nat) (l:Int):Nat:=N+(27-l).toNat
theorem lvM_succ (N:Nat){l:Int}(h:l<=24):lvM N l=lvM N (l+1)+1:=by unfold lvM; omega
def GoodC (N:Nat) (d:TDoc) (c:Z0):Prop:=c.Fd=d/\Wv N c.Fvars/\Cs c
theorem GoodC.step {N:Nat}{d:TDoc}{c c':Z0}(h:GoodC N d c) (hq:Cq c c' 0):GoodC N d c' :=
 ⟨hq.1.trans h.1,by rw [hq.2.1]; exact h.2.1,hq.2.2.2.1,hq.2.2.2.2 rfl⟩
def OutT (N:Nat) (l:Int) (c:Z0) (o:Option (Z9×Int×Z0)):Prop:=∃x e c',o=some (x,e,c')/\Cq c c' e/\Wv (lvM N l) x
def AtT (N:Nat) (d:TDoc) (n:Nat) (l:Int):Prop:=∀c t v,GoodC N d c->SOk t.FWraps->Wv N v->OutT N l c (coerce_coercer_at_qn n c t v l)
theorem zvT_M {N:Nat}{l:Int}(h:1<=N):Wv (lvM N l) zvT:=zvT_w.mono (by unfold lvM; omega)
theorem list_tot {N:Nat}{d:TDoc}{n:Nat}{l:Int}(hN:1<=N) (h0 : -1000<=l) (hl:l<=24) (hA:AtT N d n (l+1)) (c:Z0) (t:TRef) (v:Z9) (hc:GoodC N d c) (ht:SOk t.FWraps) (hv:Wv N v):OutT N l c (coerce_coercer_list_qn (n+1) c t v l):=by
 obtain⟨N1,rfl⟩:∃k,N=k+1:=⟨N-1,by omega⟩;have loop:∀(r:List Z9) (b:Z0) (y:Z9),(∀x∈r,Wv (N1+1) x)->GoodC (N1+1) d b->(∀x∈y.FItems.l,Wv (lvM (N1+1) (l+1)) x)->y.FItems.l.length+r.length<=bB ->
   ∃o,coerce_coercer_list_q14 t l (coerce_coercer_at_qn n) r b y=some o/\(match o with
    | Sum.inl p=>Cq b p.1 0/\p.2.FInt=y.FInt/\p.2.FKeys=y.FKeys/\(∀x∈p.2.FItems.l,Wv (lvM (N1+1) (l+1)) x)/\p.2.FItems.l.length<=bB
    | Sum.inr p=>Cq b p.2.2 p.2.1/\p.1=zvT):=by
  intro r;induction r with
  | nil=>intro b y _ hb hy hlen; exact⟨_,rfl,⟨rfl,rfl,rfl,hb.2.2.1,fun _=>hb.2.2.2⟩,rfl,rfl,hy,by simpa using hlen⟩
  | cons a r ih =>
   intro b y hr hb hy hlen;simp only [List.length_cons] at hlen;rw [coerce_coercer_list_q14];simp only [Ab.on];rw [addC_ok (by omega),Option.bind_some];obtain⟨x,e,b2,e1,e2,e3⟩:=hA b t a hb ht (hr a (.head _));rw [e1,Option.bind_some];by_cases he:e=0
   ·subst he;have happ:appC 80 y.FItems (⟨false,[x]⟩:Sl Z9)=some ⟨y.FItems.nl&&List.isEmpty [x],y.FItems.l++[x]⟩:=appC80 (by unfold bB at hlen; simp; omega);simp only [decide_true,Bool.not_true,cond_false];rw [happ,Option.bind_some];obtain⟨o,o1,o2⟩:=ih b2 ⟨y.FKind,y.FInt,y.FText,y.FItems.nl&&List.isEmpty [x],y.FItems.l++[x],y.FKeys⟩ (fun z hz=>hr z (.tail _ hz)) (hb.step e2) (fun z hz=>by
     rcases List.mem_append.1 hz with hz|hz
     ·exact hy z hz
     ·rw [List.mem_singleton.1 hz]; exact e3) (by show (y.FItems.l++[x]).length+r.length<=bB; simp; omega)
    refine⟨o,o1, ?_⟩;cases o with
    | inl p=>exact⟨e2.trans o2.1,o2.2.1,o2.2.2.1,o2.2.2.2.1,o2.2.2.2.2⟩
    | inr p=>exact⟨e2.trans o2.1,o2.2⟩
   ·rw [show (!decide (e=0))=true by simpa using he,cond_true];exact⟨_,rfl,e2,rfl⟩
 rw [coerce_coercer_list_qn];simp only [Ab.on];have hitems:∀x∈(bif (!decide (v.FKind=(5:Int))) then((⟨false,[v]⟩:Sl Z9)) else(v.FItems)).l,Wv (N1+1) x:=by
  cases (!decide (v.FKind=(5:Int)))
  ·intro x hx; exact(hv.2.2.2.2 x hx).mono (by omega)
  ·intro x hx; rw [List.mem_singleton.1 hx]; exact hv
 have hlen:(bif (!decide (v.FKind=(5:Int))) then((⟨false,[v]⟩:Sl Z9)) else(v.FItems)).l.length<=bB:=by
  cases (!decide (v.FKind=(5:Int)))
  ·exact hv.2.2.2.1
  ·show 1<=bB; unfold bB; omega
 obtain⟨o,o1,o2⟩:=loop _ c (Z9.mk (5:Int) (0:Int) ([]:Bs) true ([]) (Sl.nil:Sl Bs)) hitems hc (fun _ h=>by cases h) (by show 0+_<=bB; rw [Nat.zero_add]; exact hlen);rw [o1,Option.bind_some];cases o with
 | inl p =>
  obtain⟨p1,p2,p3,p4,p5⟩:=o2;refine⟨p.2,0,p.1,rfl,p1, ?_⟩;rw [lvM_succ (N1+1) hl];refine⟨by rw [p2]; exact⟨by show (-9223372036854775808:Int)<=0; decide,by show (0:Int)<=9223372036854775807; decide⟩,by rw [p3]; exact fun _=>rfl,by rw [p3]; show 0<=bB; omega,p5,p4⟩
 | inr p =>
  refine⟨p.1,p.2.1,p.2.2,rfl,o2.1, ?_⟩;rw [o2.2]; exact zvT_M (by omega)
end Go.Proofs

namespace Go.Proofs
open Go Go.Ab
def tailT (n:Nat) (a1:TRef) (a3:Int) (y8_c0:Z0) (y9_l0:Z9):Option (Z9×Int×Z0) :=
 (Z13_q y8_c0 a3).bind fun x13=>bif (!decide (x13.1=(0:Int))) then(some (zvT,x13.1,x13.2)) else(bif (decide (y9_l0.FKind=(0:Int))) then(bif Z104_q a1 then(some (zvT,(23:Int),x13.2)) else(some (zvT,(0:Int),x13.2))) else((Z102_q a1).bind fun x28=>bif x28.2 then(((coerce_coercer_list_qn n) x13.2 x28.1 y9_l0 a3).bind fun x32=>some (x32.1,x32.2.1,x32.2.2)) else(bif (((Z69_q x13.2.Fd a1.FName).2&&(!(bif (Z69_q x13.2.Fd a1.FName).2 then Z74_q a1.FName else false)))&&(decide ((Z69_q x13.2.Fd a1.FName).1.FKind=(5:Int)))) then(((coerce_coercer_object_qn n) x13.2 (Z69_q x13.2.Fd a1.FName).1 y9_l0 a3).bind fun x40=>some (x40.1,x40.2.1,x40.2.2)) else((Z14_q x13.2 a1.FName y9_l0).bind fun x42=>some (x42.1,x42.2,x13.2)))))
theorem at_unfoldT (n:Nat) (a0:Z0) (a1:TRef) (a2:Z9) (a3:Int):coerce_coercer_at_qn (n+1) a0 a1 a2 a3 =
  bif (!Z71_q a0.Fd a1.FName) then(some (zvT,(10:Int),a0)) else(bif ((decide (a2.FKind=(7:Int)))&&a0.Fliteral) then((Z108_q a0.Fvars a2.FText).bind fun x46=>bif (!decide (x46.1.FKind=(0:Int))) then((Z19_q a0 x46.1 a3).bind fun x50=>bif (!decide (x50.1=(0:Int))) then(some (zvT,x50.1,x50.2)) else(some (x46.1,(0:Int),x50.2))) else(tailT n a1 a3 a0 x46.1)) else(tailT n a1 a3 a0 a2)):=by
 rw [coerce_coercer_at_qn]; rfl
def ListT (N:Nat) (d:TDoc) (n:Nat) (l:Int):Prop:=∀c t v,GoodC N d c->SOk t.FWraps->Wv N v->OutT N l c (coerce_coercer_list_qn n c t v l)
def ObjT (N:Nat) (d:TDoc) (n:Nat) (l:Int):Prop:=∀c nm v,GoodC N d c->Wv N v->OutT N l c (coerce_coercer_object_qn n c (Z69_q d nm).1 v l)
theorem OutT.eta {N:Nat}{l:Int}{c:Z0}{o:Option (Z9×Int×Z0)}(h:OutT N l c o):OutT N l c (o.bind fun x=>some (x.1,x.2.1,x.2.2)):=by
 obtain⟨x,e,c',h1,h2,h3⟩:=h;exact⟨x,e,c',by rw [h1]; rfl,h2,h3⟩
theorem OutT.after {N:Nat}{l:Int}{c c1:Z0}{o:Option (Z9×Int×Z0)}(h:Cq c c1 0) (h2:OutT N l c1 o):OutT N l c o:=by
 obtain⟨x,e,c',a1,a2,a3⟩:=h2;exact⟨x,e,c',a1,h.trans a2,a3⟩
theorem tail_tot {N:Nat}{d:TDoc}{n:Nat}{l:Int}(hN:1<=N) (hL:l<=24->ListT N d n l) (hO:l<=24->ObjT N d n l) (c:Z0) (t:TRef) (v:Z9) (hc:GoodC N d c) (ht:SOk t.FWraps) (hv:Wv N v):OutT N l c (tailT n t l c v):=by
 obtain⟨e,c1,h1,h2,h3⟩:=count_tot12 hc.2.2 l;unfold tailT;rw [h1,Option.bind_some];by_cases he:e=0
 ·subst he;have hl:=h3 rfl;have hg:=hc.step h2;simp only [decide_true,Bool.not_true,cond_false];cases decide (v.FKind=0)
  ·rw [cond_false,inner_eq ht,Option.bind_some];cases liW (barS t.FWraps).l
   ·rw [cond_false];simp only [cond_false];rw [hg.1];generalize (((Z69_q d t.FName).2&&(!(bif (Z69_q d t.FName).2 then Z74_q t.FName else false)))&&(decide ((Z69_q d t.FName).1.FKind=(5:Int))))=w;cases w
    ·obtain⟨N1,rfl⟩:∃k,N=k+1:=⟨N-1,by omega⟩;obtain⟨x,e,g1,g2⟩:=leaf_tot hv c1 t.FName;rw [cond_false,g1,Option.bind_some];exact⟨x,e,c1,rfl,⟨h2.1,h2.2.1,h2.2.2.1,h2.2.2.2.1,fun _=>h2.2.2.2.2 rfl⟩,g2.mono (by unfold lvM; omega)⟩
    ·exact(hO hl c1 t.FName v hg hv).eta.after h2
   ·exact(hL hl c1 (innerT t) v hg (innerT_ok ht) hv).eta.after h2
  ·rw [cond_true];cases Z104_q t
   ·exact⟨zvT,0,c1,rfl,h2,zvT_M hN⟩
   ·exact⟨zvT,23,c1,rfl,⟨h2.1,h2.2.1,h2.2.2.1,h2.2.2.2.1,fun h=>by cases h⟩,zvT_M hN⟩
 ·rw [show (!decide (e=0))=true by simpa using he,cond_true];exact⟨zvT,e,c1,rfl,h2,zvT_M hN⟩
theorem at_tot {N:Nat}{d:TDoc}{n:Nat}{l:Int}(hN:1<=N) (hN2:N<=1073741824) (h0 : -1000<=l) (hL:l<=24->ListT N d n l) (hO:l<=24->ObjT N d n l):AtT N d (n+1) l:=by
 intro c t v hc ht hv;rw [at_unfoldT];cases (!Z71_q c.Fd t.FName)
 ·rw [cond_false];cases ((decide (v.FKind=(7:Int)))&&c.Fliteral)
  ·exact tail_tot hN hL hO c t v hc ht hv
  ·obtain⟨N1,rfl⟩:∃k,N=k+1:=⟨N-1,by omega⟩;obtain⟨x,b,e1,e2⟩:=get_tot hc.2.1 (by omega) v.FText;have hx:Wv (N1+1) x:=by
    rcases e2 with ⟨-,h⟩|⟨-,h⟩
    ·exact h.mono (by omega)
    ·rw [h]; exact zvT_w.mono (by omega)
   rw [cond_true,e1,Option.bind_some];cases (!decide (x.FKind=0))
   ·exact tail_tot hN hL hO c t x hc ht hx
   ·obtain⟨e,c',w1,w2⟩:=whole_tot F0 c x l hc.2.2 h0 (by rw [F0_eq]; omega) (by rw [F0_eq]; omega);rw [cond_true,show Z19_q c x l=some (e,c') from w1,Option.bind_some];by_cases he:e=0
    ·subst he;simp only [decide_true,Bool.not_true,cond_false];exact⟨x,0,c',rfl,w2,hx.mono (by unfold lvM; omega)⟩
    ·rw [show (!decide (e=0))=true by simpa using he,cond_true];exact⟨zvT,e,c',rfl,w2,zvT_M hN⟩
 ·exact⟨zvT,10,c,rfl,⟨rfl,rfl,rfl,hc.2.2.1,fun h=>by cases h⟩,zvT_M hN⟩
end Go.Proofs

namespace Go.Proofs
open Go Go.Ab
/-! Objects of the coercion are told, where places and defaults are. -/
def finT (y22:Z9) (nm:Bs) (kj26:Z0->Z9->Option (((Z0×Z9)) ⊕ ((Z9×Int×Z0)))) (s22:Int) (y44:Z0) (y45:Z9):Option (((Z0×Z9)) ⊕ ((Z9×Int×Z0))) :=
 bif (!decide (s22=(0:Int))) then(some (Sum.inr (zvT,s22,y44))) else((appC 16 y22.FKeys (⟨false,[nm]⟩:Sl Bs)).bind fun x50=>(appC 80 y22.FItems (⟨false,[y45]⟩:Sl Z9)).bind fun x51=>kj26 y44 (Z9.mk y22.FKind y22.FInt y22.FText x51.nl x51.l x50))
theorem obj_unfoldT (a1:TDef) (a2:Z9) (a3:Int) (kpl:Z0->Z6->Int->Option (Z9×Int×Z0)) (ka:Z0->TRef->Z9->Int->Option (Z9×Int×Z0)) (h:Z6) (r:List Z6) (i:Nat) (c:Z0) (x:Z9) :
  coerce_coercer_object_q18 a1 a2 a3 ka kpl (h::r) i c x=bif (Z70_q (⟨a1.FInputs.nl,a1.FInputs.l.take i⟩:Sl Z6) h.FName).2 then(coerce_coercer_object_q18 a1 a2 a3 ka kpl r (i+1) c x) else
   ((Z108_q a2 h.FName).bind fun x39=>guardO (x39.2) (Z16_q c x39.1) false fun x53 =>
    bif (x39.2&&(!x53)) then((addC a3 (1:Int)).bind fun x55=>(ka c h.FType x39.1 x55).bind fun x56=>finT x h.FName (coerce_coercer_object_q18 a1 a2 a3 ka kpl r (i+1)) x56.2.1 x56.2.2 x56.1)
    else(bif h.FHas then((addC a3 (1:Int)).bind fun x59=>(kpl c h x59).bind fun x60=>finT x h.FName (coerce_coercer_object_q18 a1 a2 a3 ka kpl r (i+1)) x60.2.1 x60.2.2 x60.1)
    else(bif Z104_q h.FType then(finT x h.FName (coerce_coercer_object_q18 a1 a2 a3 ka kpl r (i+1)) (22:Int) c Z9.zero) else(coerce_coercer_object_q18 a1 a2 a3 ka kpl r (i+1) c x)))):=by
 rw [coerce_coercer_object_q18]; rfl
/-- Inputs with bounds. -/
def InOk (N:Nat) (h:Z6):Prop:=SOk h.FType.FWraps/\Wv N h.FDefault
def PlainT (N:Nat) (d:TDoc) (n:Nat) (l:Int):Prop:=∀c h,GoodC N d c->InOk N h->OutT N l c (Z17_qn n c h l)
def ObjS (N:Nat) (l:Int) (b:Z0) (o:Option (((Z0×Z9)) ⊕ ((Z9×Int×Z0)))):Prop:=∃z,o=some z/\(match z with
 | Sum.inl p=>Cq b p.1 0/\p.2.FInt=0/\(p.2.FKeys.nl=true->p.2.FKeys.l=[])/\p.2.FKeys.l.length<=2097152/\(∀x∈p.2.FItems.l,Wv (lvM N (l+1)) x)/\p.2.FItems.l.length<=2097152
 | Sum.inr p=>Cq b p.2.2 p.2.1/\p.1=zvT)
theorem ObjS.after {N:Nat}{l:Int}{a b:Z0}{o} (h:Cq a b 0) (h2:ObjS N l b o):ObjS N l a o:=by
 obtain⟨z,e,hz⟩:=h2;refine⟨z,e, ?_⟩;cases z with
 | inl p=>exact⟨h.trans hz.1,hz.2⟩
 | inr p=>exact⟨h.trans hz.1,hz.2⟩
theorem obj_loopT {N:Nat}{d:TDoc}{n:Nat}{l:Int}(hN2:N<=1073741824) (h0 : -1000<=l) (hl:l<=24) (hA:AtT (N+1) d n (l+1)) (hP:PlainT (N+1) d n (l+1)) (a:TDef) (v:Z9) (hv:Wv (N+1) v):∀(r:List Z6) (i:Nat) (c:Z0) (x:Z9),(∀h∈r,InOk (N+1) h)->GoodC (N+1) d c->x.FInt=0->(x.FKeys.nl=true->x.FKeys.l=[])->x.FKeys.l.length+r.length<=2097152->(∀y∈x.FItems.l,Wv (lvM (N+1) (l+1)) y)->x.FItems.l.length+r.length<=2097152->ObjS (N+1) l c (coerce_coercer_object_q18 a v l (coerce_coercer_at_qn n) (Z17_qn n) r i c x)
 | [],i,c,x,_,hc,h1,h2,h3,h4,h5=>⟨_,rfl,⟨rfl,rfl,rfl,hc.2.2.1,fun _=>hc.2.2.2⟩,h1,h2,by simpa using h3,h4,by simpa using h5⟩
 | h::r,i,c,x,hr,hc,h1,h2,h3,h4,h5=>by
  simp only [List.length_cons] at h3 h5;have hh:=hr h (.head _);have hr':∀z∈r,InOk (N+1) z:=fun z hz=>hr z (.tail _ hz);have skip:ObjS (N+1) l c (coerce_coercer_object_q18 a v l (coerce_coercer_at_qn n) (Z17_qn n) r (i+1) c x):=obj_loopT hN2 h0 hl hA hP a v hv r (i+1) c x hr' hc h1 h2 (by omega) h4 (by omega);have fin:∀(o:Option (Z9×Int×Z0)),OutT (N+1) (l+1) c o->ObjS (N+1) l c (o.bind fun x56=>finT x h.FName (coerce_coercer_object_q18 a v l (coerce_coercer_at_qn n) (Z17_qn n) r (i+1)) x56.2.1 x56.2.2 x56.1):=by
   intro o ho;obtain⟨y,e,c1,e1,e2,e3⟩:=ho;rw [e1,Option.bind_some];unfold finT;by_cases he:e=0
   ·subst he;have k1:appC 16 x.FKeys (⟨false,[h.FName]⟩:Sl Bs)=some ⟨x.FKeys.nl&&List.isEmpty [h.FName],x.FKeys.l++[h.FName]⟩:=appC_ok (by decide) (by simp; omega);have k2:appC 80 x.FItems (⟨false,[y]⟩:Sl Z9)=some ⟨x.FItems.nl&&List.isEmpty [y],x.FItems.l++[y]⟩:=appC80 (by simp; omega);simp only [decide_true,Bool.not_true,cond_false];rw [k1,Option.bind_some,k2,Option.bind_some];refine ObjS.after e2 (obj_loopT hN2 h0 hl hA hP a v hv r (i+1) c1 _ hr' (hc.step e2) h1 (fun h9=>absurd h9 (by show ¬((x.FKeys.nl&&false)=true); simp)) (by show (x.FKeys.l++[h.FName]).length+r.length<=2097152; simp; omega) (fun z hz=>?_) (by show (x.FItems.l++[y]).length+r.length<=2097152; simp; omega))
    rcases List.mem_append.1 hz with hz|hz
    ·exact h4 z hz
    rw [List.mem_singleton.1 hz]; exact e3
   rw [show (!decide (e=0))=true by simpa using he,cond_true];exact⟨_,rfl,e2,rfl⟩
  rw [obj_unfoldT];cases (Z70_q (⟨a.FInputs.nl,a.FInputs.l.take i⟩:Sl Z6) h.FName).2
  ·obtain⟨y,b,e1,e2⟩:=get_tot hv hN2 h.FName;obtain⟨m,hm⟩:=missing_tot hc.2.1 hN2 y;have hy:Wv (N+1) y:=by
    rcases e2 with ⟨-,h⟩|⟨-,h⟩
    ·exact h.mono (by omega)
    rw [h]; exact zvT_w.mono (by omega)
   have rest:ObjS (N+1) l c (bif h.FHas then((addC l (1:Int)).bind fun x59=>(Z17_qn n c h x59).bind fun x60=>finT x h.FName (coerce_coercer_object_q18 a v l (coerce_coercer_at_qn n) (Z17_qn n) r (i+1)) x60.2.1 x60.2.2 x60.1)
    else(bif Z104_q h.FType then(finT x h.FName (coerce_coercer_object_q18 a v l (coerce_coercer_at_qn n) (Z17_qn n) r (i+1)) (22:Int) c Z9.zero) else(coerce_coercer_object_q18 a v l (coerce_coercer_at_qn n) (Z17_qn n) r (i+1) c x))):=by
    cases h.FHas
    ·cases Z104_q h.FType
     ·exact skip
     exact⟨_,rfl,⟨rfl,rfl,rfl,hc.2.2.1,fun h=>by cases h⟩,rfl⟩
    rw [cond_true,addC_ok (by omega),Option.bind_some];exact fin _ (hP c h hc hh)
   have go:ObjS (N+1) l c ((addC l (1:Int)).bind fun x55=>(coerce_coercer_at_qn n c h.FType y x55).bind fun x56=>finT x h.FName (coerce_coercer_object_q18 a v l (coerce_coercer_at_qn n) (Z17_qn n) r (i+1)) x56.2.1 x56.2.2 x56.1):=by
    rw [addC_ok (by omega),Option.bind_some];exact fin _ (hA c h.FType y hc hh.1 hy)
   rw [cond_false,e1,Option.bind_some];cases b
   ·exact rest
   simp only [guardO,if_true,hm,Option.bind_some,Bool.true_and];cases m
   ·exact go
   exact rest
  exact skip
end Go.Proofs

namespace Go.Proofs
open Go Go.Ab
/-! Objects and defaults are told. -/
theorem keys_tot (c:Z0) (a:TDef):∀l:List Bs,coerce_coercer_object_q66 c a l=Sum.inl ()\/coerce_coercer_object_q66 c a l=Sum.inr (zvT,22,c)
 | []=>.inl rfl
 | k::l=>by
  rw [coerce_coercer_object_q66];simp only [Ab.on];cases (Z70_q a.FInputs k).2
  ·exact .inr rfl
  exact keys_tot c a l
theorem object_tot {N:Nat}{d:TDoc}{n:Nat}{l:Int}(hN2:N<=1073741824) (h0 : -1000<=l) (hl:l<=24) (hA:AtT (N+1) d n (l+1)) (hP:PlainT (N+1) d n (l+1)) (a:TDef) (ha:(∀h∈a.FInputs.l,InOk (N+1) h)/\a.FInputs.l.length<=2097152) (c:Z0) (v:Z9) (hc:GoodC (N+1) d c) (hv:Wv (N+1) v):OutT (N+1) l c (coerce_coercer_object_qn (n+1) c a v l):=by
 have same:∀e:Int,e≠0->Cq c c e:=fun e he=>⟨rfl,rfl,rfl,hc.2.2.1,fun h=>absurd h he⟩;rw [coerce_coercer_object_qn];cases (!decide (v.FKind=(6:Int)))
 ·rw [cond_false];simp only [Ab.on];rcases keys_tot c a v.FKeys.l with h|h
  ·rw [h];obtain⟨z,e,hz⟩:=obj_loopT hN2 h0 hl hA hP a v hv a.FInputs.l 0 c (Z9.mk (6:Int) (0:Int) ([]:Bs) true ([]) (Sl.nil:Sl Bs)) ha.1 hc rfl (fun _=>rfl) (by show 0+_<=_; rw [Nat.zero_add]; exact ha.2) (fun _ h=>by cases h) (by show 0+_<=_; rw [Nat.zero_add]; exact ha.2);simp only;rw [e,Option.bind_some];cases z with
   | inl p =>
    obtain⟨p1,p2,p3,p4,p5,p6⟩:=hz;refine⟨p.2,0,p.1,rfl,p1, ?_⟩;rw [lvM_succ (N+1) hl];exact⟨by rw [p2]; exact⟨by decide,by decide⟩,p3,by unfold bB; omega,by unfold bB; omega,p5⟩
   | inr p =>
    refine⟨p.1,p.2.1,p.2.2,rfl,hz.1, ?_⟩;rw [hz.2]; exact zvT_M (by omega)
  rw [h];exact⟨zvT,22,c,rfl,same 22 (by decide),zvT_M (by omega)⟩
 exact⟨zvT,23,c,rfl,same 23 (by decide),zvT_M (by omega)⟩
theorem plain_tot {N:Nat}{d:TDoc}{n:Nat}{l:Int}(hA:AtT (N+1) d n l):PlainT (N+1) d (n+1) l:=by
 intro c h hc hh;rw [Z17_qn];obtain⟨x,e,c1,h1,h2,h3⟩:=hA ⟨c.Fd,zvT,true,c.Fnodes⟩ h.FType h.FDefault ⟨hc.1,zvT_w.mono (by omega),hc.2.2⟩ hh.1 hh.2;rw [show (Z9.mk (0:Int) (0:Int) ([]:Bs) true ([]) (Sl.nil:Sl Bs))=zvT from rfl,h1,Option.bind_some];simp only [Ab.on];exact⟨x,e,_,rfl,⟨h2.1,rfl,rfl,h2.2.2.2.1,h2.2.2.2.2⟩,h3⟩
end Go.Proofs

namespace Go.Proofs
open Go Go.Ab
/-! The coercion is told. -/
def InsOk (N:Nat) (d:TDoc):Prop:=∀nm,(∀h∈(Z69_q d nm).1.FInputs.l,InOk N h)/\(Z69_q d nm).1.FInputs.l.length<=2097152
theorem all_tot {N:Nat}{d:TDoc}(hN2:N<=1073741823) (hD:InsOk (N+1) d):∀(k:Nat) (l:Int),25-l<=(k:Int) -> -1000<=l->∀n,3*k+1<=n->AtT (N+1) d n l
 | 0,l,hk,h0,n,hn=>by
  obtain⟨m,rfl⟩:∃m,n=m+1:=⟨n-1,by omega⟩;exact at_tot (by omega) (by omega) h0 (fun h=>by omega) (fun h=>by omega)
 | k+1,l,hk,h0,n,hn=>by
  obtain⟨m,rfl⟩:∃m,n=m+1+1+1:=⟨n-3,by omega⟩;have hA2:=all_tot hN2 hD k (l+1) (by omega) (by omega) (m+1) (by omega);have hA1:=all_tot hN2 hD k (l+1) (by omega) (by omega) m (by omega);refine at_tot (by omega) (by omega) h0 (fun hl=>?_) (fun hl=>?_)
  ·intro c t v hc ht hv;exact list_tot (by omega) h0 hl hA2 c t v hc ht hv
  intro c nm v hc hv;exact object_tot (by omega) h0 hl hA2 (plain_tot hA1) _ (hD nm) c v hc hv
theorem literal_tot {N:Nat}{d:TDoc}(hN2:N<=1073741000) (hD:InsOk (N+1) d) (t:TRef) (v va:Z9) (ht:SOk t.FWraps) (hv:Wv (N+1) v) (hva:Wv (N+1) va):∃x e,Z12_q d t v va=some (x,e):=by
 unfold Z12_q;obtain⟨m,hm⟩:=missing_tot (c:=⟨d,va,true,0⟩) hva (by omega) v;rw [hm,Option.bind_some];cases m
 ·obtain⟨x,e,c',h1,h2,h3⟩:=all_tot (by omega) hD 24 1 (by omega) (by omega) F0 (by rw [F0_eq]; omega) ⟨d,va,true,0⟩ t v ⟨rfl,hva,by show (0:Int)<=0; decide,by show (0:Int)<=4096; decide⟩ ht hv;rw [cond_false,show coerce_coercer_at_q (Z0.mk d va true (0:Int)) t v (1:Int)=some (x,e,c') from h1,Option.bind_some];unfold Z20_q;simp only;cases (!decide (e=(0:Int)))
  ·obtain⟨r,e2,-⟩:=copy_ok (n:=lvM (N+1) 1) (by unfold lvM; omega) h3;rw [cond_false,e2];exact⟨_,_,rfl⟩
  exact⟨_,_,rfl⟩
 simp only [Ab.on];cases (!Z71_q d t.FName)<;>exact⟨_,_,rfl⟩
end Go.Proofs

namespace Go.Proofs
open Go Go.Ab
theorem condT {α:Type}{c:Bool}{a b:Option α}{z:α}(h:cond c a b=some z):(c=true/\a=some z)\/(c=false/\b=some z):=by cases c; exact .inr ⟨rfl,h⟩; exact .inl ⟨rfl,h⟩
theorem guardT {α β:Type}{c:Bool}{o:Option α}{d:α}{k:α->Option β}{z:β}(h:guardO c o d k=some z):(c=true/\∃v,o=some v/\k v=some z)\/(c=false/\k d=some z):=by
  unfold guardO at h;cases c with
  | true=>obtain⟨v,e,h⟩:=bindO_some (by simpa using h); exact .inl ⟨rfl,v,e,h⟩
  | false=>exact .inr ⟨rfl,by simpa using h⟩
def nilV:Z9:=Z9.mk (0:Int) (0:Int) ([]:Bs) true ([]) (Sl.nil:Sl Bs)
def Lim (e:Int):Prop:=e=4\/e=5
theorem not_lim0:¬Lim 0:=by unfold Lim; omega
def Sm (a b:Int):Prop:=Lim a\/Lim b\/a=b
structure Gd (c:Z0) (d:TDoc):Prop where
  doc:c.Fd=d
  vars:c.Fvars=nilV
  lit:c.Fliteral=true
theorem get_nil (s:Bs):Z108_q nilV s=some (nilV,false):=by unfold Z108_q; simp only [Ab.on]; rfl
theorem count_is {c:Z0}{d:TDoc}(h:Gd c d){L:Int}{z:Int×Z0}(e:Z13_q c L=some z):Gd z.2 d/\(z.1=0\/Lim z.1):=by
  unfold Z13_q at e;rcases condT e with ⟨_,e⟩|⟨_,e⟩
  · cases e; exact⟨h,.inr (.inr rfl)⟩
  · obtain⟨x,_,e⟩:=bindO_some e
    rcases condT e with ⟨_,e⟩|⟨_,e⟩<;>cases e
    · exact⟨⟨h.doc,h.vars,h.lit⟩,.inr (.inl rfl)⟩
    · exact⟨⟨h.doc,h.vars,h.lit⟩,.inl rfl⟩
def atB (n:Nat) (c:Z0) (t:TRef) (v:Z9) (L:Int):Option (Z9×Int×Z0) :=
  (Z13_q c L).bind fun x=>bif (!decide (x.1=(0:Int))) then(some (nilV,x.1,x.2)) else(bif (decide (v.FKind=(0:Int))) then(bif Z104_q t then(some (nilV,(23:Int),x.2)) else(some (nilV,(0:Int),x.2)))
    else((Z102_q t).bind fun y=>bif y.2 then((coerce_coercer_list_qn n x.2 y.1 v L).bind fun z=>some (z.1,z.2.1,z.2.2))
      else(bif (((Z69_q x.2.Fd t.FName).2&&(!(bif (Z69_q x.2.Fd t.FName).2 then Z74_q t.FName else false)))&&(decide ((Z69_q x.2.Fd t.FName).1.FKind=(5:Int)))) then((coerce_coercer_object_qn n x.2 (Z69_q x.2.Fd t.FName).1 v L).bind fun z=>some (z.1,z.2.1,z.2.2))
        else((Z14_q x.2 t.FName v).bind fun z=>some (z.1,z.2,x.2)))))
def vv (v:Z9):Z9:=bif decide (v.FKind=(7:Int)) then nilV else v
theorem at_eq {n:Nat}{c:Z0}{d:TDoc}(h:Gd c d) (t:TRef) (v:Z9) (L:Int):coerce_coercer_at_qn (n+1) c t v L=bif (!Z71_q d t.FName) then some (nilV,10,c) else atB n c t (vv v) L:=by
  rw [coerce_coercer_at_qn];simp only [Ab.on,h.doc,h.lit,Bool.and_true,h.vars,get_nil,Option.bind_some];unfold vv;cases Z71_q d t.FName
  · rfl
  · cases decide (v.FKind=(7:Int))<;>rfl
def eo (o:(Z0×Z9) ⊕ (Z9×Int×Z0)):Int×Z0:=match o with|.inl z=>(0,z.1)|.inr e=>e.2
section
variable {d:TDoc}
def GA (d:TDoc) (k:Z0->TRef->Z9->Int->Option (Z9×Int×Z0)):Prop:=∀c t v L z,Gd c d->k c t v L=some z->Gd z.2.2 d
def GO (d:TDoc) (k:Z0->TDef->Z9->Int->Option (Z9×Int×Z0)):Prop:=∀c t v L z,Gd c d->k c t v L=some z->Gd z.2.2 d
def GPl (d:TDoc) (k:Z0->Z6->Int->Option (Z9×Int×Z0)):Prop:=∀c t L z,Gd c d->k c t L=some z->Gd z.2.2 d
theorem list_gd {k} (ha:GA d k) (t:TRef) (L:Int):∀(l:List Z9) (c:Z0) (a:Z9) (o),Gd c d->coerce_coercer_list_q14 t L k l c a=some o->Gd (eo o).2 d/\((∃z,o=.inl z)\/(eo o).1≠0)
  | [],c,a,o,hc,h=>by
    rw [coerce_coercer_list_q14] at h; cases h; exact⟨hc,.inl ⟨_,rfl⟩⟩
  | x::r,c,a,o,hc,h=>by
    rw [coerce_coercer_list_q14] at h;simp only [Ab.on] at h;obtain⟨L1,_,h⟩:=bindO_some h;obtain⟨z,e,h⟩:=bindO_some h;have hz:=ha _ _ _ _ _ hc e;rcases condT h with ⟨h1,h⟩|⟨_,h⟩
    · cases h; exact⟨hz,.inr (by show ¬z.2.1=0; simpa using h1)⟩
    · obtain⟨s,_,h⟩:=bindO_some h
      exact list_gd ha t L r _ _ _ hz h
theorem keys_gd {c:Z0}{x:TDef}:∀(l:List Bs) (o),coerce_coercer_object_q66 c x l=o->(o=.inl ()/\∀s∈l,(Z70_q x.FInputs s).2=true)\/(∃r,o=.inr (r,22,c))/\∃s∈l,(Z70_q x.FInputs s).2=false
  | [],o,h=>.inl ⟨h.symm,fun _ h=>by cases h⟩
  | s::r,o,h=>by
    rw [coerce_coercer_object_q66] at h;simp only [Ab.on] at h;cases hs:(Z70_q x.FInputs s).2
    · rw [hs] at h; exact .inr ⟨⟨_,h.symm⟩,s,.head _,hs⟩
    · rw [hs] at h
      rcases keys_gd r o h with ⟨h1,h2⟩|⟨h1,y,hy,h2⟩
      · exact .inl ⟨h1,fun y hy=>by rcases List.mem_cons.1 hy with rfl|hy; exact hs; exact h2 y hy⟩
      · exact .inr ⟨h1,y,.tail _ hy,h2⟩
theorem missing_gd {c:Z0}(hc:Gd c d) (v:Z9):Z16_q c v=some (decide (v.FKind=(7:Int))):=by
  unfold Z16_q;rw [hc.lit,hc.vars,get_nil];cases decide (v.FKind=(7:Int))<;>rfl
def inC (k:Z0->TRef->Z9->Int->Option (Z9×Int×Z0)) (p:Z0->Z6->Int->Option (Z9×Int×Z0)) (L:Int) (c:Z0) (x:Z6) (g:Z9×Bool) (z:Z9×Int×Z0):Prop :=
  bif g.2&&!decide (g.1.FKind=(7:Int)) then ∃M,addC L 1=some M/\k c x.FType g.1 M=some z else bif x.FHas then ∃M,addC L 1=some M/\p c x M=some z else(Z104_q x.FType=true/\z=(Z9.zero,22,c))
theorem inputs_step {k p} {a1:TDef}{a2:Z9}{L:Int}{x:Z6}{r:List Z6}{i:Nat}{c:Z0}{a:Z9}{o} (hc:Gd c d) (h:coerce_coercer_object_q18 a1 a2 L k p (x::r) i c a=some o) :
    (Z70_q ⟨a1.FInputs.nl,a1.FInputs.l.take i⟩ x.FName).2=true/\coerce_coercer_object_q18 a1 a2 L k p r (i+1) c a=some o \/
    (Z70_q ⟨a1.FInputs.nl,a1.FInputs.l.take i⟩ x.FName).2=false/\∃g,Z108_q a2 x.FName=some g /\
      ((∃z,inC k p L c x g z/\(z.2.1≠0/\o=.inr (nilV,z.2.1,z.2.2)\/z.2.1=0/\∃a',coerce_coercer_object_q18 a1 a2 L k p r (i+1) z.2.2 a'=some o)) \/
       ((g.2&&!decide (g.1.FKind=(7:Int)))=false/\x.FHas=false/\Z104_q x.FType=false/\coerce_coercer_object_q18 a1 a2 L k p r (i+1) c a=some o)):=by
  rw [coerce_coercer_object_q18] at h;simp only [Ab.on] at h;rcases condT h with ⟨h1,h⟩|⟨h1,h⟩
  · exact .inl ⟨h1,h⟩
  · refine .inr ⟨h1, ?_⟩
    obtain⟨g,eg,h⟩:=bindO_some h;refine⟨g,eg, ?_⟩;have key:∀b:Bool,(g.2&&!b)=(g.2&&!decide (g.1.FKind=(7:Int))) ->
        (bif (g.2&&(!b)) then((addC L (1:Int)).bind fun x55=>(k c x.FType g.1 x55).bind fun x56=>bif (!decide (x56.2.1=(0:Int))) then(some (Sum.inr ((Z9.mk (0:Int) (0:Int) ([]:Bs) true ([]) (Sl.nil:Sl Bs)),x56.2.1,x56.2.2))) else((appC 16 a.FKeys (⟨false,[x.FName]⟩:Sl Bs)).bind fun x50=>(appC 80 a.FItems (⟨false,[x56.1]⟩:Sl Z9)).bind fun x51=>coerce_coercer_object_q18 a1 a2 L k p r (i+1) x56.2.2 (Z9.mk a.FKind a.FInt a.FText x51.nl x51.l x50)))
        else(bif x.FHas then((addC L (1:Int)).bind fun x59=>(p c x x59).bind fun x60=>bif (!decide (x60.2.1=(0:Int))) then(some (Sum.inr ((Z9.mk (0:Int) (0:Int) ([]:Bs) true ([]) (Sl.nil:Sl Bs)),x60.2.1,x60.2.2))) else((appC 16 a.FKeys (⟨false,[x.FName]⟩:Sl Bs)).bind fun x50=>(appC 80 a.FItems (⟨false,[x60.1]⟩:Sl Z9)).bind fun x51=>coerce_coercer_object_q18 a1 a2 L k p r (i+1) x60.2.2 (Z9.mk a.FKind a.FInt a.FText x51.nl x51.l x50)))
        else(bif Z104_q x.FType then(bif (!decide ((22:Int)=(0:Int))) then(some (Sum.inr ((Z9.mk (0:Int) (0:Int) ([]:Bs) true ([]) (Sl.nil:Sl Bs)),(22:Int),c))) else((appC 16 a.FKeys (⟨false,[x.FName]⟩:Sl Bs)).bind fun x50=>(appC 80 a.FItems (⟨false,[Z9.zero]⟩:Sl Z9)).bind fun x51=>coerce_coercer_object_q18 a1 a2 L k p r (i+1) c (Z9.mk a.FKind a.FInt a.FText x51.nl x51.l x50)))
        else(coerce_coercer_object_q18 a1 a2 L k p r (i+1) c a))))=some o ->
        (∃z,inC k p L c x g z/\(z.2.1≠0/\o=.inr (nilV,z.2.1,z.2.2)\/z.2.1=0/\∃a',coerce_coercer_object_q18 a1 a2 L k p r (i+1) z.2.2 a'=some o)) \/
       ((g.2&&!decide (g.1.FKind=(7:Int)))=false/\x.FHas=false/\Z104_q x.FType=false/\coerce_coercer_object_q18 a1 a2 L k p r (i+1) c a=some o):=by
      intro b hb h;rw [hb] at h;have fin:∀z:Z9×Int×Z0,(bif (!decide (z.2.1=(0:Int))) then(some (Sum.inr ((Z9.mk (0:Int) (0:Int) ([]:Bs) true ([]) (Sl.nil:Sl Bs)),z.2.1,z.2.2))) else((appC 16 a.FKeys (⟨false,[x.FName]⟩:Sl Bs)).bind fun x50=>(appC 80 a.FItems (⟨false,[z.1]⟩:Sl Z9)).bind fun x51=>coerce_coercer_object_q18 a1 a2 L k p r (i+1) z.2.2 (Z9.mk a.FKind a.FInt a.FText x51.nl x51.l x50)))=some o ->
          (z.2.1≠0/\o=.inr (nilV,z.2.1,z.2.2)\/z.2.1=0/\∃a',coerce_coercer_object_q18 a1 a2 L k p r (i+1) z.2.2 a'=some o):=by
        intro z h;rcases condT h with ⟨h1,h⟩|⟨h1,h⟩
        · cases h; exact .inl ⟨by simpa using h1,rfl⟩
        · obtain⟨_,_,h⟩:=bindO_some h
          obtain⟨_,_,h⟩:=bindO_some h;exact .inr ⟨by simpa using h1,_,h⟩
      rcases condT h with ⟨h1,h⟩|⟨h1,h⟩
      · obtain⟨M,eM,h⟩:=bindO_some h
        obtain⟨z,ez,h⟩:=bindO_some h;refine .inl ⟨z, ?_,fin z h⟩;unfold inC; rw [h1]; exact⟨M,eM,ez⟩
      · rcases condT h with ⟨h2,h⟩|⟨h2,h⟩
        · obtain⟨M,eM,h⟩:=bindO_some h
          obtain⟨z,ez,h⟩:=bindO_some h;refine .inl ⟨z, ?_,fin z h⟩;unfold inC; rw [h1,h2]; exact⟨M,eM,ez⟩
        · rcases condT h with ⟨h3,h⟩|⟨h3,h⟩
          · refine .inl ⟨(Z9.zero,22,c), ?_,fin (Z9.zero,22,c) h⟩
            unfold inC; rw [h1,h2]; exact⟨h3,rfl⟩
          · exact .inr ⟨h1,h2,h3,h⟩
    rcases guardT h with ⟨h2,b,eb,h⟩|⟨h2,h⟩
    · rw [missing_gd hc] at eb
      cases eb;exact key _ rfl h
    · exact key false (by rw [h2]; rfl) h
theorem inC_gd {k p} (ha:GA d k) (hp:GPl d p){L:Int}{c:Z0}{x:Z6}{g:Z9×Bool}{z:Z9×Int×Z0}(hc:Gd c d) (h:inC k p L c x g z):Gd z.2.2 d:=by
  unfold inC at h;cases hb:(g.2&&!decide (g.1.FKind=(7:Int)))<;>simp only [hb,cond_true,cond_false] at h
  · cases hh:x.FHas<;>simp only [hh,cond_true,cond_false] at h
    · rw [h.2]; exact hc
    · obtain⟨_,_,h⟩:=h; exact hp _ _ _ _ hc h
  · obtain⟨_,_,h⟩:=h; exact ha _ _ _ _ _ hc h
theorem inputs_gd {k p} (ha:GA d k) (hp:GPl d p) (a1:TDef) (a2:Z9) (L:Int):∀(l:List Z6) (i:Nat) (c:Z0) (a:Z9) (o),Gd c d->coerce_coercer_object_q18 a1 a2 L k p l i c a=some o->Gd (eo o).2 d
  | [],i,c,a,o,hc,h=>by rw [coerce_coercer_object_q18] at h; cases h; exact hc
  | x::r,i,c,a,o,hc,h=>by
    rcases inputs_step hc h with ⟨_,h⟩|⟨_,g,_,⟨z,hz,⟨_,rfl⟩|⟨_,a',h⟩⟩|⟨_,_,_,h⟩⟩
    · exact inputs_gd ha hp a1 a2 L r _ _ _ _ hc h
    · exact show Gd z.2.2 d from inC_gd ha hp hc hz
    · exact inputs_gd ha hp a1 a2 L r _ _ _ _ (inC_gd ha hp hc hz) h
    · exact inputs_gd ha hp a1 a2 L r _ _ _ _ hc h
theorem bind3 {o:Option (Z9×Int×Z0)}{z:Z9×Int×Z0}(h:(o.bind fun x=>some (x.1,x.2.1,x.2.2))=some z):o=some z:=by
  obtain⟨x,e,h⟩:=bindO_some h; cases h; exact e
theorem all_gd:∀n:Nat,GA d (coerce_coercer_at_qn n)/\GA d (coerce_coercer_list_qn n)/\GO d (coerce_coercer_object_qn n)/\GPl d (Z17_qn n)
  | 0=>⟨fun _ _ _ _ _ _ h=>(by cases h),fun _ _ _ _ _ _ h=>(by cases h),fun _ _ _ _ _ _ h=>(by cases h),fun _ _ _ _ _ h=>(by cases h)⟩
  | n+1=>by
    obtain⟨hA,hL,hO,hP⟩:=all_gd n;refine⟨fun c t v L z hc h=>?_,fun c t v L z hc h=>?_,fun c t v L z hc h=>?_,fun c x L z hc h=>?_⟩
    · rw [at_eq hc] at h
      rcases condT h with ⟨_,h⟩|⟨_,h⟩
      · cases h; exact hc
      · unfold atB at h
        obtain⟨x,ex,h⟩:=bindO_some h;have hx:=(count_is hc ex).1;rcases condT h with ⟨_,h⟩|⟨_,h⟩
        · cases h; exact hx
        · rcases condT h with ⟨_,h⟩|⟨_,h⟩
          · rcases condT h with ⟨_,h⟩|⟨_,h⟩<;>(cases h; exact hx)
          · obtain⟨y,_,h⟩:=bindO_some h
            rcases condT h with ⟨_,h⟩|⟨_,h⟩
            · exact hL _ _ _ _ _ hx (bind3 h)
            · rcases condT h with ⟨_,h⟩|⟨_,h⟩
              · exact hO _ _ _ _ _ hx (bind3 h)
              · obtain⟨w,_,h⟩:=bindO_some h; cases h; exact hx
    · rw [coerce_coercer_list_qn] at h
      simp only [Ab.on] at h;obtain⟨o,eo1,h⟩:=bindO_some h;have:=(list_gd hA t L _ _ _ _ hc eo1).1;cases o<;>(cases h; exact this)
    · rw [coerce_coercer_object_qn] at h
      simp only [Ab.on] at h;rcases condT h with ⟨_,h⟩|⟨_,h⟩
      · cases h; exact hc
      · rcases keys_gd (c:=c) (x:=t) v.FKeys.l _ rfl with ⟨e,_⟩|⟨⟨r,e⟩,_⟩
        · rw [e] at h
          obtain⟨o,eo1,h⟩:=bindO_some h;have:=inputs_gd hA hP t v L _ _ _ _ _ hc eo1;cases o<;>(cases h; exact this)
        · rw [e] at h; cases h; exact hc
    · rw [Z17_qn] at h
      obtain⟨y,ey,h⟩:=bindO_some h;have:=hA _ _ _ _ _ (by exact⟨hc.doc,rfl,rfl⟩) ey;cases h;exact⟨this.doc,hc.vars,hc.lit⟩
end
end Go.Proofs

namespace Go.Proofs
open Go Go.Ab
def Kn (d:TDoc) (t:TRef):Prop:=Z71_q d t.FName=true
def Agree (d d':TDoc):Prop:=∀nm,Z71_q d nm=true->Z69_q d' nm=Z69_q d nm
def InIn (d:TDoc):Prop:=∀nm,(Z69_q d nm).1.FKind=5->∀x∈(Z69_q d nm).1.FInputs.l,Kn d x.FType
theorem Agree.input {d d':TDoc}(h:Agree d d'){nm:Bs}(hn:Z71_q d nm=true):Z71_q d' nm=true:=by
 have e:=h nm hn;unfold Z71_q Z72_q Z84_q at hn ⊢;simp only [Ab.on,e] at hn ⊢;exact hn
theorem nullable_name {t u:TRef}(h:Z107_q t=some u):u.FName=t.FName:=by
 unfold Z107_q at h;simp only [Ab.on] at h;obtain⟨_,_,h⟩:=bindO_some h;obtain⟨_,_,h⟩:=bindO_some h;cases h; rfl
theorem inner_name {t:TRef}{y:TRef×Bool}(h:Z102_q t=some y) (hy:y.2=true):y.1.FName=t.FName:=by
 unfold Z102_q at h;obtain⟨_,_,h⟩:=bindO_some h;rcases condT h with ⟨_,h⟩|⟨_,h⟩
 ·cases h; cases hy
 ·obtain⟨u,eu,h⟩:=bindO_some h;obtain⟨_,_,h⟩:=bindO_some h;cases h; exact show u.FName=t.FName from nullable_name eu
theorem leaf_same {c1 c2:Z0}{nm:Bs}{v:Z9}(h1:c1.Fliteral=c2.Fliteral) (h2:Z69_q c1.Fd nm=Z69_q c2.Fd nm):Z14_q c1 nm v=Z14_q c2 nm v:=by
 unfold Z14_q;simp only [Ab.on,h1,h2]
theorem Sm.rfl (a:Int):Sm a a:=.inr (.inr _root_.rfl)
section
variable {d d':TDoc}
def SA (d d':TDoc) (k m:Z0->TRef->Z9->Int->Option (Z9×Int×Z0)):Prop:=∀t v L1 L2 c1 c2 z1 z2,Gd c1 d->Gd c2 d'->Kn d t->k c1 t v L1=some z1->m c2 t v L2=some z2->Sm z1.2.1 z2.2.1
def SO (d d':TDoc) (k m:Z0->TDef->Z9->Int->Option (Z9×Int×Z0)):Prop:=∀t v L1 L2 c1 c2 z1 z2,Gd c1 d->Gd c2 d'->(∀x∈t.FInputs.l,Kn d x.FType)->k c1 t v L1=some z1->m c2 t v L2=some z2->Sm z1.2.1 z2.2.1
def SPl (d d':TDoc) (k m:Z0->Z6->Int->Option (Z9×Int×Z0)):Prop:=∀x L1 L2 c1 c2 z1 z2,Gd c1 d->Gd c2 d'->Kn d x.FType->k c1 x L1=some z1->m c2 x L2=some z2->Sm z1.2.1 z2.2.1
theorem list_same {k m} (hk:GA d k) (hm:GA d' m) (hs:SA d d' k m) (t:TRef) (ht:Kn d t) (L1 L2:Int):∀(l:List Z9) (c1 c2:Z0) (a1 a2:Z9) (o1 o2),Gd c1 d->Gd c2 d'->coerce_coercer_list_q14 t L1 k l c1 a1=some o1->coerce_coercer_list_q14 t L2 m l c2 a2=some o2->Sm (eo o1).1 (eo o2).1
 | [],c1,c2,a1,a2,o1,o2,h1,h2,e1,e2=>by
  rw [coerce_coercer_list_q14] at e1 e2; cases e1; cases e2; exact Sm.rfl _
 | x::r,c1,c2,a1,a2,o1,o2,h1,h2,e1,e2=>by
  rw [coerce_coercer_list_q14] at e1 e2;simp only [Ab.on] at e1 e2;obtain⟨M1,_,e1⟩:=bindO_some e1;obtain⟨M2,_,e2⟩:=bindO_some e2;obtain⟨z1,f1,e1⟩:=bindO_some e1;obtain⟨z2,f2,e2⟩:=bindO_some e2;have g1:=hk _ _ _ _ _ h1 f1;have g2:=hm _ _ _ _ _ h2 f2;have hz:=hs _ _ _ _ _ _ _ _ h1 h2 ht f1 f2;rcases condT e1 with ⟨n1,e1⟩|⟨n1,e1⟩<;>rcases condT e2 with ⟨n2,e2⟩|⟨n2,e2⟩
  ·cases e1; cases e2; exact hz
  ·have n2:z2.2.1=0:=by simpa using n2
   cases e1;rcases hz with h|h|h
   ·exact .inl h
   ·rw [n2] at h; exact absurd h not_lim0
   ·rw [n2] at h; simp [h] at n1
  ·have n1:z1.2.1=0:=by simpa using n1
   cases e2;rcases hz with h|h|h
   ·rw [n1] at h; exact absurd h not_lim0
   ·exact .inr (.inl h)
   ·rw [n1] at h; simp [<- h] at n2
  ·obtain⟨_,_,e1⟩:=bindO_some e1;obtain⟨_,_,e2⟩:=bindO_some e2;exact list_same hk hm hs t ht L1 L2 r _ _ _ _ _ _ g1 g2 e1 e2
theorem inC_same {k m p q} (hs:SA d d' k m) (hp:SPl d d' p q){L1 L2:Int}{c1 c2:Z0}{x:Z6}{g:Z9×Bool}{z1 z2} (h1:Gd c1 d) (h2:Gd c2 d') (hx:Kn d x.FType) (e1:inC k p L1 c1 x g z1) (e2:inC m q L2 c2 x g z2):Sm z1.2.1 z2.2.1:=by
 unfold inC at e1 e2;cases hb:(g.2&&!decide (g.1.FKind=(7:Int)))<;>simp only [hb,cond_true,cond_false] at e1 e2
 ·cases hh:x.FHas<;>simp only [hh,cond_true,cond_false] at e1 e2
  ·rw [e1.2,e2.2]; exact Sm.rfl _
  ·obtain⟨_,_,e1⟩:=e1; obtain⟨_,_,e2⟩:=e2; exact hp _ _ _ _ _ _ _ h1 h2 hx e1 e2
 ·obtain⟨_,_,e1⟩:=e1; obtain⟨_,_,e2⟩:=e2; exact hs _ _ _ _ _ _ _ _ h1 h2 hx e1 e2
theorem inputs_same {k m p q} (hk:GA d k) (hm:GA d' m) (hkp:GPl d p) (hmq:GPl d' q) (hs:SA d d' k m) (hp:SPl d d' p q) (a1:TDef) (a2:Z9) (L1 L2:Int):∀(l:List Z6) (i:Nat) (c1 c2:Z0) (a b:Z9) (o1 o2),(∀x∈l,Kn d x.FType)->Gd c1 d->Gd c2 d'->coerce_coercer_object_q18 a1 a2 L1 k p l i c1 a=some o1->coerce_coercer_object_q18 a1 a2 L2 m q l i c2 b=some o2->Sm (eo o1).1 (eo o2).1
 | [],i,c1,c2,a,b,o1,o2,_,_,_,e1,e2=>by
  rw [coerce_coercer_object_q18] at e1 e2; cases e1; cases e2; exact Sm.rfl _
 | x::r,i,c1,c2,a,b,o1,o2,hl,h1,h2,e1,e2=>by
  have ih:=fun i c1 c2 a b o1 o2 h1 h2=>inputs_same hk hm hkp hmq hs hp a1 a2 L1 L2 r i c1 c2 a b o1 o2 (fun y hy=>hl y (.tail _ hy)) h1 h2;have hx:=hl x (.head _);rcases inputs_step h1 e1 with ⟨s1,e1⟩|⟨s1,g1,eg1,e1⟩<;>rcases inputs_step h2 e2 with ⟨s2,e2⟩|⟨s2,g2,eg2,e2⟩
  ·exact ih _ _ _ _ _ _ _ h1 h2 e1 e2
  ·rw [s1] at s2; cases s2
  ·rw [s1] at s2; cases s2
  ·obtain rfl:g1=g2:=by rw [eg1] at eg2; exact Option.some.inj eg2
   have no:∀{k p L c z},inC k p L c x g1 z->(g1.2&&!decide (g1.1.FKind=(7:Int)))=false->x.FHas=false->Z104_q x.FType=false->False:=by
    intro k p L c z hz n1 n2 n3;unfold inC at hz; rw [n1,n2] at hz; rw [hz.1] at n3; cases n3
   rcases e1 with ⟨z1,i1,e1⟩|⟨n1,n2,n3,e1⟩<;>rcases e2 with ⟨z2,i2,e2⟩|⟨n4,n5,n6,e2⟩
   ·have hz:=inC_same hs hp h1 h2 hx i1 i2;have G1:=inC_gd hk hkp h1 i1;have G2:=inC_gd hm hmq h2 i2;rcases e1 with ⟨y1,rfl⟩|⟨y1,a',e1⟩<;>rcases e2 with ⟨y2,rfl⟩|⟨y2,b',e2⟩
    ·exact hz
    ·rcases hz with h|h|h
     ·exact .inl h
     ·rw [y2] at h; exact absurd h not_lim0
     ·rw [y2] at h; exact absurd h y1
    ·rcases hz with h|h|h
     ·rw [y1] at h; exact absurd h not_lim0
     ·exact .inr (.inl h)
     ·rw [y1] at h; exact absurd h.symm y2
    ·exact ih _ _ _ _ _ _ _ G1 G2 e1 e2
   ·exact(no i1 n4 n5 n6).elim
   ·exact(no i2 n1 n2 n3).elim
   ·exact ih _ _ _ _ _ _ _ h1 h2 e1 e2
theorem all_same (hA:Agree d d') (hI:InIn d):∀n m:Nat,SA d d' (coerce_coercer_at_qn n) (coerce_coercer_at_qn m)/\SA d d' (coerce_coercer_list_qn n) (coerce_coercer_list_qn m)/\SO d d' (coerce_coercer_object_qn n) (coerce_coercer_object_qn m)/\SPl d d' (Z17_qn n) (Z17_qn m)
 | 0,_=>⟨fun _ _ _ _ _ _ _ _ _ _ _ h=>(by cases h),fun _ _ _ _ _ _ _ _ _ _ _ h=>(by cases h),fun _ _ _ _ _ _ _ _ _ _ _ h=>(by cases h),fun _ _ _ _ _ _ _ _ _ _ h=>(by cases h)⟩
 | _+1,0=>⟨fun _ _ _ _ _ _ _ _ _ _ _ _ h=>(by cases h),fun _ _ _ _ _ _ _ _ _ _ _ _ h=>(by cases h),fun _ _ _ _ _ _ _ _ _ _ _ _ h=>(by cases h),fun _ _ _ _ _ _ _ _ _ _ _ h=>(by cases h)⟩
 | n+1,m+1=>by
  obtain⟨sA,sL,sO,sP⟩:=all_same hA hI n m;obtain⟨gA,gL,gO,gP⟩:=all_gd (d:=d) n;obtain⟨kA,kL,kO,kP⟩:=all_gd (d:=d') m;refine⟨fun t v L1 L2 c1 c2 z1 z2 h1 h2 ht e1 e2=>?_,fun t v L1 L2 c1 c2 z1 z2 h1 h2 ht e1 e2=>?_,fun t v L1 L2 c1 c2 z1 z2 h1 h2 ht e1 e2=>?_,fun x L1 L2 c1 c2 z1 z2 h1 h2 ht e1 e2=>?_⟩
  ·rw [at_eq h1] at e1;rw [at_eq h2] at e2;have ht':=hA.input ht;unfold Kn at ht;rw [ht] at e1;rw [ht'] at e2;simp only [Bool.not_true,cond_false] at e1 e2;generalize vv v=v at e1 e2;unfold atB at e1 e2;obtain⟨x1,f1,e1⟩:=bindO_some e1;obtain⟨x2,f2,e2⟩:=bindO_some e2;obtain⟨g1,l1⟩:=count_is h1 f1;obtain⟨g2,l2⟩:=count_is h2 f2;rcases condT e1 with ⟨n1,e1⟩|⟨n1,e1⟩
   ·cases e1;rcases l1 with l1|l1
    ·simp [l1] at n1
    ·exact .inl l1
   rcases condT e2 with ⟨n2,e2⟩|⟨n2,e2⟩
   ·cases e2;rcases l2 with l2|l2
    ·simp [l2] at n2
    ·exact .inr (.inl l2)
   have hf:Z69_q x2.2.Fd t.FName=Z69_q x1.2.Fd t.FName:=by rw [g1.doc,g2.doc]; exact hA _ ht
   rw [hf] at e2;rcases condT e1 with ⟨k1,e1⟩|⟨k1,e1⟩
   ·rw [k1,cond_true] at e2;rcases condT e1 with ⟨k2,e1⟩|⟨k2,e1⟩<;>rw [k2] at e2<;>cases e1<;>cases e2<;>exact Sm.rfl _
   ·rw [k1,cond_false] at e2;obtain⟨y,ey,e1⟩:=bindO_some e1;rw [ey,Option.bind_some] at e2;rcases condT e1 with ⟨k2,e1⟩|⟨k2,e1⟩
    ·rw [k2,cond_true] at e2;exact sL _ _ _ _ _ _ _ _ g1 g2 (by unfold Kn; rw [inner_name ey k2]; exact ht) (bind3 e1) (bind3 e2)
    ·rw [k2,cond_false] at e2;rcases condT e1 with ⟨k3,e1⟩|⟨k3,e1⟩
     ·rw [k3,cond_true] at e2;have k4:(Z69_q x1.2.Fd t.FName).1.FKind=5:=by
       simp only [Bool.and_eq_true] at k3; exact of_decide_eq_true k3.2
      refine sO _ _ _ _ _ _ _ _ g1 g2 ?_ (bind3 e1) (bind3 e2);rw [g1.doc] at k4 ⊢;exact hI _ k4
     ·rw [k3,cond_false] at e2;rw [<- leaf_same (g1.lit.trans g2.lit.symm) hf.symm] at e2;obtain⟨w,ew,e1⟩:=bindO_some e1;rw [ew,Option.bind_some] at e2;cases e1; cases e2; exact Sm.rfl _
  ·rw [coerce_coercer_list_qn] at e1 e2;simp only [Ab.on] at e1 e2;obtain⟨o1,f1,e1⟩:=bindO_some e1;obtain⟨o2,f2,e2⟩:=bindO_some e2;have:=list_same gA kA sA t ht L1 L2 _ _ _ _ _ _ _ h1 h2 f1 f2;cases o1<;>cases o2<;>cases e1<;>cases e2<;>exact this
  ·rw [coerce_coercer_object_qn] at e1 e2;simp only [Ab.on] at e1 e2;rcases condT e1 with ⟨k1,e1⟩|⟨k1,e1⟩
   ·rw [k1,cond_true] at e2; cases e1; cases e2; exact Sm.rfl _
   ·rw [k1,cond_false] at e2;rcases keys_gd (c:=c1) (x:=t) v.FKeys.l _ rfl with ⟨f1,a1⟩|⟨⟨r1,f1⟩,y,hy,a1⟩<;>rcases keys_gd (c:=c2) (x:=t) v.FKeys.l _ rfl with ⟨f2,a2⟩|⟨⟨r2,f2⟩,y2,hy2,a2⟩
    ·rw [f1] at e1;rw [f2] at e2;obtain⟨o1,f1,e1⟩:=bindO_some e1;obtain⟨o2,f2,e2⟩:=bindO_some e2;have:=inputs_same gA kA gP kP sA sP t v L1 L2 _ _ _ _ _ _ _ _ ht h1 h2 f1 f2;cases o1<;>cases o2<;>cases e1<;>cases e2<;>exact this
    ·rw [a1 _ hy2] at a2; cases a2
    ·rw [a2 _ hy] at a1; cases a1
    ·rw [f1] at e1;rw [f2] at e2;cases e1; cases e2; exact Sm.rfl _
  ·rw [Z17_qn] at e1 e2;obtain⟨y1,f1,e1⟩:=bindO_some e1;obtain⟨y2,f2,e2⟩:=bindO_some e2;have:=sA _ _ _ _ _ _ _ _ (by exact⟨h1.doc,rfl,rfl⟩) (by exact⟨h2.doc,rfl,rfl⟩) ht f1 f2;cases e1; cases e2; exact this
end
end Go.Proofs

namespace Go.Proofs
open Go Go.Ab
inductive Eqv:Z9->Z9->Prop
 | mk {v w:Z9}:v.FKind=w.FKind->v.FInt=w.FInt->v.FText=w.FText->v.FKeys.l=w.FKeys.l->v.FItems.l.length=w.FItems.l.length->(v.FKeys.nl=true->v.FKeys.l=[]) ->
   (∀(i:Nat) x y,v.FItems.l[i]?=some x->w.FItems.l[i]?=some y->Eqv x y)->Eqv v w
inductive Kc:Z9->Prop
 | mk {v:Z9}:v.FKind≠7->(v.FKind=6->v.FKeys.l.Nodup/\v.FKeys.l.length=v.FItems.l.length)->(∀x∈v.FItems.l,Kc x)->Kc v
theorem copies_loop {f:Z9->Option Z9}:∀(l:List Z9) (s s':Sl Z9),Z110_q8 f l s=some s'->∃rs,s'.l=s.l++rs/\All2 (fun x r=>f x=some r) l rs
 | [],s,s',h=>by rw [Z110_q8] at h; cases h; exact⟨[],by simp,.nil⟩
 | x::r,s,s',h=>by
  rw [Z110_q8] at h;simp only [Ab.on] at h;obtain⟨y,ey,h⟩:=bindO_some h;obtain⟨z,ez,h⟩:=bindO_some h;obtain⟨rs,e,ha⟩:=copies_loop r z s' h;have:=(appC_some ez).1;refine⟨y::rs, ?_,.cons ey ha⟩;rw [e,this]; simp
theorem copy_eqv:∀(m:Nat){v r w:Z9},value_Copy_qn m v=some r->Eqv v w->Eqv r w
 | 0,_,_,_,h,_=>by cases h
 | 1,_,_,_,h,_=>by rw [value_Copy_qn,Z110_qn] at h; cases h
 | m+2,v,r,w,h,hv=>by
  rw [value_Copy_qn,Z110_qn] at h;simp only [Ab.on] at h;obtain⟨s,es,h⟩:=bindO_some h;obtain⟨s',es',es⟩:=bindO_some es;cases es;obtain⟨k,ek,h⟩:=bindO_some h;cases h;obtain⟨rs,e,ha⟩:=copies_loop _ _ _ es';rw [show (Sl.nil:Sl Z9).l=[] from rfl,List.nil_append] at e;obtain⟨h1,h2,h3,h4,h5,h6,h7⟩:=hv;have hk:k.l=v.FKeys.l/\(k.nl=true->k.l=[]):=by
   unfold Z86_q at ek;rcases condT ek with ⟨hn,ek⟩|⟨hn,ek⟩
   ·cases ek; exact⟨(h6 hn).symm,fun _=>rfl⟩
   ·obtain⟨q,eq,ek⟩:=bindO_some ek;cases ek;have:=(appC_some eq).1;rw [this]; exact⟨by simp,fun h=>by simp at h⟩
  refine⟨h1,h2,h3,hk.1.trans h4, ?_,hk.2,fun i x y hx hy=>?_⟩
  ·show s.l.length=_; rw [e,<- ha.length]; exact h5
  ·have hx:s.l[i]?=some x:=hx;rw [e] at hx;obtain⟨x0,e0,hc⟩:=ha.get' hx;exact copy_eqv m hc (h7 i _ _ e0 hy)
theorem idx_is (s:Bs):∀(l:List Bs) (n:Nat),(Z96_q6 s l n=Sum.inl ()/\s∉l)\/∃i,Z96_q6 s l n=Sum.inr (((n+i:Nat)):Int)/\l[i]?=some s
 | [],n=>.inl ⟨rfl,fun h=>by cases h⟩
 | a::r,n=>by
  rw [Z96_q6];simp only [Ab.on];cases h:s==a
  ·have h:s≠a:=by simpa using h
   rcases idx_is s r (n+1) with ⟨e,h2⟩|⟨i,e,h2⟩
   ·exact .inl ⟨e,fun h3=>by rcases List.mem_cons.1 h3 with h3|h3; exact h h3; exact h2 h3⟩
   ·exact .inr ⟨i+1,by rw [cond_false,e]; congr 2; omega,by simpa using h2⟩
  ·have h:s=a:=by simpa using h
   exact .inr ⟨0,rfl,by rw [h]; rfl⟩
theorem contains_is (k:Sl Bs) (s:Bs):Z91_q k s=true↔s∈k.l:=by
 unfold Z91_q Z96_q;simp only [Ab.on];rcases idx_is s k.l 0 with ⟨e,h⟩|⟨i,e,h⟩<;>rw [e]
 ·exact⟨fun h=>by simp at h,fun h2=>absurd h2 h⟩
 ·exact⟨fun _=>List.mem_of_getElem? h,fun _=>by simp⟩
theorem get_is {v w:Z9}{s:Bs}{g:Z9×Bool}(h:Z108_q v s=some g) (hv:Eqv v w) (hk:w.FKind=6) (hl:w.FKeys.l.length=w.FItems.l.length):(g.2=false/\s∉w.FKeys.l)\/(g.2=true/\∃(i:Nat) (y:Z9),w.FKeys.l[i]?=some s/\w.FItems.l[i]?=some y/\Eqv g.1 y):=by
 obtain⟨h1,h2,h3,h4,h5,h6,h7⟩:=hv;unfold Z108_q Z96_q at h;simp only [Ab.on] at h;rcases idx_is s v.FKeys.l 0 with ⟨e,hs⟩|⟨i,e,hs⟩<;>rw [e] at h
 ·left
  simp only [h1,hk] at h;have:g=(nilV,false):=(Option.some.inj h).symm;rw [this,<- h4]; exact⟨rfl,hs⟩
 ·right
  simp only [Nat.zero_add] at h;have hi:i<v.FKeys.l.length:=(List.getElem?_eq_some_iff.1 hs).1;have hi2:i<v.FItems.l.length:=by rw [h5,<- hl,<- h4]; exact hi
  rw [show ((!decide (v.FKind=(6:Int)))||(decide (((i:Nat):Int)<(0:Int)))||(decide (((v.FItems.l.length:Nat):Int)<=((i:Nat):Int))))=false by rw [h1,hk]; simp; omega,cond_false] at h;obtain⟨x,ex,h⟩:=bindO_some h;obtain⟨r,er,h⟩:=bindO_some h;cases h;have ex:v.FItems.l[i]?=some x:=by have:=idxC_at ex; simpa using this
  obtain⟨y,ey⟩:∃y,w.FItems.l[i]?=some y:=⟨w.FItems.l[i]'(by omega),List.getElem?_eq_getElem _⟩;exact⟨rfl,i,y,by rw [<- h4]; exact hs,ey,copy_eqv F0 er (h7 i _ _ ex ey)⟩
theorem idxV_is {f:Z9->Option Bool}:∀(l:List Z9) (n:Nat) (o),Z92_q6m f l n=some o->(o=.inl ()/\∀x∈l,f x=some false)\/((∃i:Nat,o=.inr (i:Int))/\∃x∈l,f x=some true)
 | [],n,o,h=>by rw [Z92_q6m] at h; cases h; exact .inl ⟨rfl,fun _ h=>by cases h⟩
 | a::r,n,o,h=>by
  rw [Z92_q6m] at h;simp only [Ab.on] at h;obtain⟨b,eb,h⟩:=bindO_some h;rcases condT h with ⟨hb,h⟩|⟨hb,h⟩
  ·cases h; exact .inr ⟨⟨n,rfl⟩,a,.head _,by rw [eb,hb]⟩
  ·rcases idxV_is r (n+1) o h with ⟨e,h2⟩|⟨e,x,hx,h2⟩
   ·exact .inl ⟨e,fun x hx=>by rcases List.mem_cons.1 hx with rfl|hx; rw [eb,hb]; exact h2 x hx⟩
   ·exact .inr ⟨e,x,.tail _ hx,h2⟩
theorem anyV_is {f:Z9->Option Bool}{s:Sl Z9}{b:Bool}(h:Z87_qm s f=some b):(b=false/\∀x∈s.l,f x=some false)\/(b=true/\∃x∈s.l,f x=some true):=by
 unfold Z87_qm Z92_qm at h;obtain⟨i,ei,h⟩:=bindO_some h;obtain⟨o,e,ei⟩:=bindO_some ei;cases h;rcases idxV_is _ _ _ e with ⟨rfl,h2⟩|⟨⟨j,rfl⟩,h2⟩
 ·have:i = -1:=(Option.some.inj ei).symm;subst this; exact .inl ⟨rfl,h2⟩
 ·have:i=(j:Int):=(Option.some.inj ei).symm;subst this; exact .inr ⟨by simp,h2⟩
theorem idxI_is {f:Z6->Bool}:∀(l:List Z6) (n:Nat),(Z95_q6 f l n=.inl ()/\∀x∈l,f x=false)\/((∃i:Nat,Z95_q6 f l n=.inr (i:Int))/\∃x∈l,f x=true)
 | [],n=>.inl ⟨rfl,fun _ h=>by cases h⟩
 | a::r,n=>by
  rw [Z95_q6];simp only [Ab.on];cases hb:f a
  ·rcases idxI_is r (n+1) with ⟨e,h2⟩|⟨e,x,hx,h2⟩
   ·exact .inl ⟨e,fun x hx=>by rcases List.mem_cons.1 hx with rfl|hx; exact hb; exact h2 x hx⟩
   ·exact .inr ⟨e,x,.tail _ hx,h2⟩
  ·exact .inr ⟨⟨n,rfl⟩,a,.head _,hb⟩
theorem anyI_is {f:Z6->Bool}{s:Sl Z6}:(Z90_q s f=false/\∀x∈s.l,f x=false)\/(Z90_q s f=true/\∃x∈s.l,f x=true):=by
 unfold Z90_q Z95_q;simp only [Ab.on];rcases idxI_is (f:=f) s.l 0 with ⟨e,h⟩|⟨⟨i,e⟩,h⟩<;>rw [e]
 ·exact .inl ⟨rfl,h⟩
 ·exact .inr ⟨by simp,h⟩
theorem input1_is (x:Z6) (w:Z9):Z34_q x w=true↔Z104_q x.FType=true/\x.FHas=false/\x.FName∉w.FKeys.l:=by
 unfold Z34_q;simp only [Ab.on];have:=contains_is w.FKeys x.FName;cases Z104_q x.FType<;>cases x.FHas<;>simp;rw [<- this]; simp
def NamesOk (l:List Z6):Prop:=(l.map (·.FName)).Nodup
theorem fndI_of {l:List Z6}(h:NamesOk l){x:Z6}(hx:x∈l):fndI l x.FName=(x,true):=by
 unfold fndI;have:l.find? (fun t=>t.FName==x.FName)=some x:=by
  induction l with
  | nil=>cases hx
  | cons a r ih =>
   unfold NamesOk at h;rw [List.map_cons,List.nodup_cons] at h;rw [List.find?_cons];rcases List.mem_cons.1 hx with rfl|hx
   ·simp
   ·have:(a.FName==x.FName)=false:=by
     simp only [beq_eq_false_iff_ne]; intro e; exact h.1 (by rw [e]; exact List.mem_map_of_mem hx)
    rw [this]; exact ih h.2 hx
 rw [this]
theorem fndI_in {l:List Z6}{s:Bs}(h:(fndI l s).2=true):(fndI l s).1∈l/\(fndI l s).1.FName=s:=by
 unfold fndI at h ⊢;cases e:l.find? (fun t=>t.FName==s) with
 | none=>rw [e] at h; cases h
 | some t=>exact⟨List.mem_of_find?_eq_some e,by simpa using List.find?_some e⟩
theorem not_twice {l:List Z6}(h:NamesOk l){i:Nat}{x:Z6}{r:List Z6}(hd:l.drop i=x::r):(fndI (l.take i) x.FName).2=false:=by
 cases e:(fndI (l.take i) x.FName).2
 ·rfl
 ·obtain⟨h1,h2⟩:=fndI_in e;have hl:l=l.take i++x::r:=by rw [<- hd]; exact(List.take_append_drop i l).symm
  unfold NamesOk at h;rw [hl,List.map_append,List.nodup_append] at h;exact absurd h2 (h.2.2 _ (List.mem_map_of_mem h1) _ (by simp))
end Go.Proofs

namespace Go.Proofs
open Go Go.Ab
section
variable {d:TDoc}
def Dk (d:TDoc) (x:Z6):Prop:=x.FHas=true->∀k c L z,Gd c d->coerce_coercer_at_qn k c x.FType x.FDefault L=some z->z.2.1=0\/Lim z.2.1
def InGood (d:TDoc) (t:TDef):Prop:=NamesOk t.FInputs.l/\∀x∈t.FInputs.l,Kn d x.FType/\Dk d x
def RB (d:TDoc) (k:Z0->TRef->Z9->Int->Option (Z9×Int×Z0)) (f:TDoc->TRef->Z9->Option Bool):Prop:=∀c t v w L z b,Gd c d->Kn d t->Eqv v w->Kc w->k c t v L=some z->f d t w=some b->Lim z.2.1\/b=decide (z.2.1=0)
def Ran (d:TDoc) (k:Z0->TRef->Z9->Int->Option (Z9×Int×Z0)) (t:TRef) (v:Z9) (e:Int):Prop:=∃c L z,Gd c d/\k c t v L=some z/\z.2.1=e
theorem list_run {k} (hk:GA d k) (t:TRef) (L:Int):∀(l:List Z9) (c:Z0) (a:Z9) (o),Gd c d->coerce_coercer_list_q14 t L k l c a=some o->((∃z,o=.inl z)/\∀x∈l,Ran d k t x 0)\/((eo o).1≠0/\∃x∈l,Ran d k t x (eo o).1)
 | [],c,a,o,hc,h=>by rw [coerce_coercer_list_q14] at h; cases h; exact .inl ⟨⟨_,rfl⟩,fun _ h=>by cases h⟩
 | x::r,c,a,o,hc,h=>by
  rw [coerce_coercer_list_q14] at h;simp only [Ab.on] at h;obtain⟨L1,_,h⟩:=bindO_some h;obtain⟨z,e,h⟩:=bindO_some h;rcases condT h with ⟨h1,h⟩|⟨h1,h⟩
  ·cases h; exact .inr ⟨by show ¬z.2.1=0; simpa using h1,x,.head _,c,_,z,hc,e,rfl⟩
  ·obtain⟨s,_,h⟩:=bindO_some h;have h1:z.2.1=0:=by simpa using h1
   rcases list_run hk t L r _ _ _ (hk _ _ _ _ _ hc e) h with ⟨g1,g2⟩|⟨g1,y,hy,g2⟩
   ·exact .inl ⟨g1,fun y hy=>by rcases List.mem_cons.1 hy with rfl|hy; exact⟨c,_,z,hc,e,h1⟩; exact g2 y hy⟩
   ·exact .inr ⟨g1,y,.tail _ hy,g2⟩
def InRan (d:TDoc) (k:Z0->TRef->Z9->Int->Option (Z9×Int×Z0)) (p:Z0->Z6->Int->Option (Z9×Int×Z0)) (x:Z6) (g:Z9×Bool) (e:Int):Prop:=∃c L z,Gd c d/\inC k p L c x g z/\z.2.1=e
theorem inputs_run {k p} (hk:GA d k) (hp:GPl d p) (a1:TDef) (a2:Z9) (L:Int) (hN:NamesOk a1.FInputs.l):∀(l:List Z6) (i:Nat) (c:Z0) (a:Z9) (o),a1.FInputs.l.drop i=l->Gd c d->coerce_coercer_object_q18 a1 a2 L k p l i c a=some o ->
  ((∃z,o=.inl z)/\∀x∈l,∃g,Z108_q a2 x.FName=some g/\(InRan d k p x g 0\/(g.2&&!decide (g.1.FKind=(7:Int)))=false/\x.FHas=false/\Z104_q x.FType=false)) \/
  ((eo o).1≠0/\∃x∈l,∃g,Z108_q a2 x.FName=some g/\InRan d k p x g (eo o).1)
 | [],i,c,a,o,_,hc,h=>by rw [coerce_coercer_object_q18] at h; cases h; exact .inl ⟨⟨_,rfl⟩,fun _ h=>by cases h⟩
 | x::r,i,c,a,o,hd,hc,h=>by
  have hd2:a1.FInputs.l.drop (i+1)=r:=by rw [<- List.drop_drop,hd]; rfl
  have cons:∀{c' a'},Gd c' d->coerce_coercer_object_q18 a1 a2 L k p r (i+1) c' a'=some o->(∃g,Z108_q a2 x.FName=some g/\(InRan d k p x g 0\/(g.2&&!decide (g.1.FKind=(7:Int)))=false/\x.FHas=false/\Z104_q x.FType=false))->((∃z,o=.inl z)/\∀y∈x::r,∃g,Z108_q a2 y.FName=some g/\(InRan d k p y g 0\/(g.2&&!decide (g.1.FKind=(7:Int)))=false/\y.FHas=false/\Z104_q y.FType=false)) \/
  ((eo o).1≠0/\∃y∈x::r,∃g,Z108_q a2 y.FName=some g/\InRan d k p y g (eo o).1):=fun hc' h' hx=>by
   rcases inputs_run hk hp a1 a2 L hN r (i+1) _ _ o hd2 hc' h' with ⟨g1,g2⟩|⟨g1,y,hy,g2⟩
   ·exact Or.inl ⟨g1,fun y hy=>by rcases List.mem_cons.1 hy with rfl|hy; exact hx; exact g2 y hy⟩
   ·exact Or.inr ⟨g1,y,List.Mem.tail _ hy,g2⟩
  rcases inputs_step hc h with ⟨h1,h⟩|⟨_,g,eg,⟨z,hz,⟨hn,rfl⟩|⟨hn,a',h⟩⟩|⟨n1,n2,n3,h⟩⟩
  ·rw [inputOf_eq] at h1;rw [not_twice hN hd] at h1; cases h1
  ·exact .inr ⟨hn,x,.head _,g,eg,c,L,z,hc,hz,rfl⟩
  ·exact cons (inC_gd hk hp hc hz) h ⟨g,eg,.inl ⟨c,L,z,hc,hz,hn⟩⟩
  ·exact cons hc h ⟨g,eg,.inr ⟨n1,n2,n3⟩⟩
theorem obj_is {x:TDef}{w:Z9}{f}:∀(l:List Bs) (i:Nat) (o),w.FKeys.l.drop i=l->Z33_q7 d x w f l i=some o ->
  (o=.inl ()/\∀(j:Nat) s,i<=j->w.FKeys.l[j]?=some s->(fndI x.FInputs.l s).2=true/\∃y,w.FItems.l[j]?=some y/\f d (fndI x.FInputs.l s).1.FType y=some true) \/
  (o=.inr false/\∃(j:Nat) (s:Bs),w.FKeys.l[j]?=some s/\((fndI x.FInputs.l s).2=false\/w.FItems.l.length<=j\/∃y,w.FItems.l[j]?=some y/\f d (fndI x.FInputs.l s).1.FType y=some false))
 | [],i,o,hd,h=>by
  rw [Z33_q7] at h; cases h;refine .inl ⟨rfl,fun j s hj hs=>?_⟩;have h1:=List.drop_eq_nil_iff.1 hd;have h2:=(List.getElem?_eq_some_iff.1 hs).1;omega
 | s::r,i,o,hd,h=>by
  have hd2:w.FKeys.l.drop (i+1)=r:=by rw [<- List.drop_drop,hd]; rfl
  have hs:w.FKeys.l[i]?=some s:=by rw [<- List.head?_drop,hd]; rfl
  rw [Z33_q7] at h;simp only [Ab.on,inputOf_eq] at h;cases hf:(fndI x.FInputs.l s).2
  ·rw [hf] at h;simp only [Bool.not_false,Bool.true_or,Bool.not_true,guardO,Bool.false_eq_true,if_false,cond_true] at h;exact .inr ⟨(Option.some.inj h).symm,i,s,hs,.inl hf⟩
  ·rw [hf] at h;by_cases hi:w.FItems.l.length<=i
   ·rw [decide_eq_true (by omega:((w.FItems.l.length:Nat):Int)<=((i:Nat):Int))] at h;simp only [Bool.or_true,Bool.not_true,guardO,Bool.false_eq_true,if_false,Bool.true_or,cond_true] at h;exact .inr ⟨(Option.some.inj h).symm,i,s,hs,.inr (.inl hi)⟩
   ·rw [decide_eq_false (by omega:¬((w.FItems.l.length:Nat):Int)<=((i:Nat):Int))] at h;simp only [Bool.not_true,Bool.or_false,Bool.not_false,guardO,if_true,Bool.false_or] at h;obtain⟨y,ey,h⟩:=bindO_some h;obtain⟨b,eb,h⟩:=bindO_some h;rcases condT h with ⟨hb,h⟩|⟨hb,h⟩
    ·have hb:b=false:=by simpa using hb
     subst hb;exact .inr ⟨(Option.some.inj h).symm,i,s,hs,.inr (.inr ⟨y,ey,eb⟩)⟩
    ·have hb:b=true:=by simpa using hb
     subst hb;rcases obj_is r (i+1) o hd2 h with ⟨g1,g2⟩|g
     ·refine .inl ⟨g1,fun j s' hj hs'=>?_⟩;rcases Nat.eq_or_lt_of_le hj with rfl|hj
      ·rw [hs] at hs'; cases hs'; exact⟨hf,y,ey,eb⟩
      ·exact g2 j s' hj hs'
     ·exact .inr g
theorem nodup_idx {l:List Bs}{i j:Nat}{s:Bs}(h:l.Nodup) (h1:l[i]?=some s) (h2:l[j]?=some s):i=j:=by
 obtain⟨a1,a2⟩:=List.getElem?_eq_some_iff.1 h1;obtain⟨b1,b2⟩:=List.getElem?_eq_some_iff.1 h2;have hp:=List.pairwise_iff_getElem.1 h;rcases Nat.lt_trichotomy i j with hij|hij|hij
 ·exact absurd (a2.trans b2.symm) (hp i j a1 b1 hij)
 ·exact hij
 ·exact absurd (b2.trans a2.symm) (hp j i b1 a1 hij)
theorem objB {n m:Nat}(hB:RB d (coerce_coercer_at_qn n) (fields_fits_qn m)){c:Z0}{t:TDef}{v w:Z9}{L:Int}{z:Z9×Int×Z0}{b:Bool}(hc:Gd c d) (hg:InGood d t) (hv:Eqv v w) (hw:Kc w) (h6:w.FKind=6)
  (e1:coerce_coercer_object_qn (n+1) c t v L=some z) (e2:Z33_qn (m+1) d t w=some b):Lim z.2.1\/b=decide (z.2.1=0):=by
 obtain⟨gA,_,_,gP⟩:=all_gd (d:=d) n;have hv':=hv;obtain⟨h1,h2,h3,h4,h5,_,_⟩:=hv;obtain⟨hw1,hw2,hw3⟩:=hw;obtain⟨hnd,hlen⟩:=hw2 h6;rw [coerce_coercer_object_qn] at e1;simp only [Ab.on,h1,h6] at e1;rw [Z33_qn] at e2;simp only [Ab.on] at e2;obtain⟨o2,f2,e2⟩:=bindO_some e2;have F:=obj_is (d:=d) (x:=t) (w:=w) w.FKeys.l 0 o2 rfl f2;rcases keys_gd (c:=c) (x:=t) v.FKeys.l _ rfl with ⟨f1,a1⟩|⟨⟨r1,f1⟩,s,hs,a1⟩<;>rw [f1] at e1
 ·obtain⟨o1,g1,e1⟩:=bindO_some e1;have hz:z.2.1=(eo o1).1:=by cases o1<;>(cases e1; rfl)
  rw [hz]
  -- a value that is there
  have there:∀{x:Z6}{g:Z9×Bool}{e:Int},x∈t.FInputs.l->Z108_q v x.FName=some g->g.2=true->InRan d (coerce_coercer_at_qn n) (Z17_qn n) x g e->∃(j:Nat) (y:Z9),w.FKeys.l[j]?=some x.FName/\w.FItems.l[j]?=some y/\∀q,fields_fits_qn m d x.FType y=some q->Lim e\/q=decide (e=0):=by
   intro x g e hx eg g2 ⟨c',L',z',hc',hi,he⟩;rcases get_is eg hv' h6 hlen with ⟨q1,_⟩|⟨_,j,y,j1,j2,j3⟩
   ·rw [g2] at q1; cases q1
   ·refine⟨j,y,j1,j2,fun q hq=>?_⟩;have hy:=hw3 y (List.mem_of_getElem? j2);have k7:g.1.FKind≠7:=by obtain⟨k1,_⟩:=j3; obtain⟨k2,_⟩:=hy; rw [k1]; exact k2
    unfold inC at hi;rw [g2,decide_eq_false k7] at hi;obtain⟨M,_,hi⟩:=hi;have:=hB c' x.FType g.1 y M z' q hc' ((hg.2 x hx).1) j3 hy hi hq;rw [he] at this; exact this
  have plainE:∀{x:Z6}{g:Z9×Bool}{e:Int},x∈t.FInputs.l->g.2=false->x.FHas=true->InRan d (coerce_coercer_at_qn n) (Z17_qn n) x g e->e=0\/Lim e:=by
   intro x g e hx g2 hh ⟨c',L',z',hc',hi,he⟩;unfold inC at hi;rw [g2,hh] at hi;obtain⟨M,_,hi⟩:=hi;cases n with
   | zero=>cases hi
   | succ n =>
    rw [Z17_qn] at hi;obtain⟨y,ey,hi⟩:=bindO_some hi;cases hi;rw [<- he];exact(hg.2 x hx).2 hh n _ _ y (by exact⟨hc'.doc,rfl,rfl⟩) ey
  have nonN:∀{x:Z6}{g:Z9×Bool}{e:Int},g.2=false->x.FHas=false->InRan d (coerce_coercer_at_qn n) (Z17_qn n) x g e->Z104_q x.FType=true/\e=22:=by
   intro x g e g2 hh ⟨c',L',z',hc',hi,he⟩;unfold inC at hi;rw [g2,hh] at hi;have:=hi.2;rw [this] at he;exact⟨hi.1,he.symm⟩
  rcases inputs_run gA gP t v L hg.1 t.FInputs.l 0 c _ o1 rfl hc g1 with ⟨⟨zz,rfl⟩,hall⟩|⟨hne,x,hx,g,eg,hr⟩
  ·-- coerced
   right
   show b=decide ((0:Int)=0);rcases F with ⟨rfl,F⟩|⟨rfl,j,s,j1,F⟩
   ·rcases anyI_is (f:=fun y0=>Z34_q y0 w) (s:=t.FInputs) with ⟨e,_⟩|⟨_,x,hx,hx1⟩
    ·rw [e] at e2; exact(Option.some.inj e2).symm
    ·obtain⟨i1,i2,i3⟩:=(input1_is x w).1 hx1;obtain⟨g,eg,hg1⟩:=hall x hx;rcases get_is eg hv' h6 hlen with ⟨q1,_⟩|⟨_,j,y,j1,_⟩
     ·rcases hg1 with hg1|⟨_,_,n3⟩
      ·have:=(nonN q1 i2 hg1).2; omega
      ·rw [i1] at n3; cases n3
     ·exact absurd (List.mem_of_getElem? j1) i3
   ·exfalso
    have hin:=a1 s (by rw [h4]; exact List.mem_of_getElem? j1);rw [inputOf_eq] at hin;obtain⟨hx,hxn⟩:=fndI_in hin;rcases F with F|F|⟨y,j2,F⟩
    ·rw [F] at hin; cases hin
    ·have:=(List.getElem?_eq_some_iff.1 j1).1; omega
    ·obtain⟨g,eg,hg1⟩:=hall _ hx;rcases get_is eg hv' h6 hlen with ⟨_,q2⟩|⟨q1,_⟩
     ·exact q2 (by rw [hxn]; exact List.mem_of_getElem? j1)
     ·have ran:InRan d (coerce_coercer_at_qn n) (Z17_qn n) (fndI t.FInputs.l s).1 g 0:=by
       rcases hg1 with hg1|⟨n1,_,_⟩
       ·exact hg1
       ·exfalso
        rcases get_is eg hv' h6 hlen with ⟨q2,_⟩|⟨_,i,y',_,i2,i3⟩
        ·rw [q1] at q2; cases q2
        ·have hy:=hw3 y' (List.mem_of_getElem? i2);obtain⟨k1,_⟩:=i3; obtain⟨k2,_⟩:=hy;rw [q1,decide_eq_false (by rw [k1]; exact k2)] at n1; cases n1
      obtain⟨i,y',i1,i2,hq⟩:=there hx eg q1 ran;have hij:i=j:=by
       rw [hxn] at i1;exact nodup_idx hnd i1 j1
      subst hij;rw [j2] at i2; cases i2;rcases hq _ F with h|h
      ·exact not_lim0 h
      ·cases h
  ·-- an input that is not
   generalize (eo o1).1=e at *;cases g2:g.2
   ·cases hh:x.FHas
    ·obtain⟨n1,n2⟩:=nonN g2 hh hr
     right
     rw [decide_eq_false hne];rcases F with ⟨rfl,F⟩|⟨rfl,_⟩
     ·rcases anyI_is (f:=fun y0=>Z34_q y0 w) (s:=t.FInputs) with ⟨_,e'⟩|⟨e',_⟩
      ·exfalso
       have:=e' x hx;rcases get_is eg hv' h6 hlen with ⟨_,q2⟩|⟨q1,_⟩
       ·have h':=(input1_is x w).2 ⟨n1,hh,q2⟩;rw [this] at h'; cases h'
       ·rw [g2] at q1; cases q1
      ·rw [e'] at e2; exact(Option.some.inj e2).symm
     ·exact(Option.some.inj e2).symm
    ·rcases plainE hx g2 hh hr with h|h
     ·exact absurd h hne
     ·exact .inl h
   ·obtain⟨j,y,j1,j2,hq⟩:=there hx eg g2 hr;rcases F with ⟨rfl,F⟩|⟨rfl,_⟩
    ·obtain⟨k1,y',k2,k3⟩:=F j _ (Nat.zero_le _) j1;rw [j2] at k2; cases k2;rw [fndI_of hg.1 hx] at k3;rcases hq _ k3 with h|h
     ·exact .inl h
     ·rw [decide_eq_false hne] at h; cases h
    ·right
     rw [decide_eq_false hne]; exact(Option.some.inj e2).symm
 ·-- a key that is not known
  cases e1
  right
  show b=decide ((22:Int)=0);rw [inputOf_eq] at a1;rw [h4] at hs;obtain⟨j,hj⟩:=List.getElem?_of_mem hs;rcases F with ⟨rfl,F⟩|⟨rfl,_⟩
  ·have:=(F j s (Nat.zero_le _) hj).1;rw [a1] at this; cases this
  ·exact(Option.some.inj e2).symm
end
end Go.Proofs

namespace Go.Proofs
open Go Go.Ab
section
variable {d:TDoc}
theorem fit1 {m:Nat}{y:Z9}{t:TRef}{q:Bool}(h:fields_fits_1_qn m y d t=some q):∃m',fields_fits_qn m' d t y=some (!q):=by
 cases m with
 | zero=>cases h
 | succ m =>
  rw [fields_fits_1_qn] at h;obtain⟨b,eb,h⟩:=bindO_some h;cases h;exact⟨m,by rw [eb]; simp⟩
theorem eqv_item {v w x:Z9}(hv:Eqv v w) (hx:x∈v.FItems.l):∃y∈w.FItems.l,Eqv x y:=by
 obtain⟨_,_,_,_,h5,_,h7⟩:=hv;obtain⟨i,hi⟩:=List.getElem?_of_mem hx;have h:=(List.getElem?_eq_some_iff.1 hi).1;have hy:w.FItems.l[i]?=some (w.FItems.l[i]'(by omega)):=List.getElem?_eq_getElem _;exact⟨_,List.mem_of_getElem? hy,h7 i _ _ hi hy⟩
theorem eqv_item' {v w y:Z9}(hv:Eqv v w) (hy:y∈w.FItems.l):∃x∈v.FItems.l,Eqv x y:=by
 obtain⟨_,_,_,_,h5,_,h7⟩:=hv;obtain⟨i,hi⟩:=List.getElem?_of_mem hy;have h:=(List.getElem?_eq_some_iff.1 hi).1;have hx:v.FItems.l[i]?=some (v.FItems.l[i]'(by omega)):=List.getElem?_eq_getElem _;exact⟨_,List.mem_of_getElem? hx,h7 i _ _ hx hi⟩
theorem found_kind {nm:Bs}(h:(Z69_q d nm).1.FKind≠0):(Z69_q d nm).2=true:=by
 rw [find_eq] at h ⊢;unfold fnd at h ⊢;cases e:d.FDefs.l.find? (fun t=>t.FName==nm) with
 | none=>rw [e] at h; exact absurd rfl h
 | some t=>rfl
theorem input_kind {nm:Bs}(h:Z71_q d nm=true) (hs:Z74_q nm=false):(Z69_q d nm).1.FKind=4\/(Z69_q d nm).1.FKind=5:=by
 unfold Z71_q Z72_q Z84_q at h;simp only [Ab.on,hs] at h;by_cases h4:(Z69_q d nm).1.FKind=4
 ·exact .inl h4
 ·right
  simpa [h4] using h
theorem err_of {b:Bool}{r:Z9}{c:Z0}{v:Z9}{z:Z9×Int×Z0}(h:(Option.bind (bif (!b) then(some (r,(23:Int))) else(some (v,(0:Int)))) fun y:Z9×Int=>some (y.1,y.2,c))=some z):b=decide (z.2.1=0):=by
 cases b<;>(cases h; rfl)
theorem allB (hG:∀nm,(Z69_q d nm).1.FKind=5->InGood d (Z69_q d nm).1):∀N n m:Nat,n<=N->RB d (coerce_coercer_at_qn n) (fields_fits_qn m)
 | _,0,_,_=>fun _ _ _ _ _ _ _ _ _ _ _ h=>by cases h
 | 0,n+1,_,h=>by omega
 | N+1,n+1,m,hn=>by
  intro c t v w L z b hc ht hv hw e1 e2;cases m with
  | zero=>cases e2
  | succ m =>
  have ht':Z71_q d t.FName=true:=ht;have hv':=hv;have hw':=hw;obtain⟨h1,h2,h3,h4,h5,_,_⟩:=hv;obtain⟨hw1,hw2,hw3⟩:=hw;have h7:v.FKind≠7:=by rw [h1]; exact hw1
  rw [at_eq hc,ht'] at e1;rw [show vv v=v by unfold vv; rw [decide_eq_false h7]; rfl] at e1;simp only [Bool.not_true,cond_false] at e1;rw [fields_fits_qn,decide_eq_false hw1] at e2;simp only [Ab.on,ht',Bool.not_true,cond_false] at e2;unfold atB at e1;obtain⟨x,f1,e1⟩:=bindO_some e1;obtain⟨g1,l1⟩:=count_is hc f1;rcases condT e1 with ⟨n1,e1⟩|⟨n1,e1⟩
  ·cases e1;rcases l1 with l1|l1
   ·simp [l1] at n1
   ·exact .inl l1
  rw [<- h1] at e2;rcases condT e1 with ⟨k1,e1⟩|⟨k1,e1⟩<;>rw [k1] at e2<;>simp only [cond_true,cond_false] at e2
  ·right
   cases e2;rcases condT e1 with ⟨k2,e1⟩|⟨k2,e1⟩<;>(cases e1; rw [k2]; rfl)
  obtain⟨y,ey,e1⟩:=bindO_some e1;rw [ey,Option.bind_some] at e2;rcases condT e1 with ⟨k2,e1⟩|⟨k2,e1⟩<;>rw [k2] at e2<;>simp only [cond_true,cond_false] at e2
  ·-- lists
   have hty:Kn d y.1:=by unfold Kn; rw [inner_name ey k2]; exact ht
   have e1:=bind3 e1;cases n with
   | zero=>cases e1
   | succ n =>
   have IH:=fun m=>allB hG N n m (by omega);obtain⟨gA,_,_,_⟩:=all_gd (d:=d) n;rw [coerce_coercer_list_qn] at e1;simp only [Ab.on] at e1;obtain⟨o,f2,e1⟩:=bindO_some e1;have hz:z.2.1=(eo o).1:=by cases o<;>(cases e1; rfl)
   rw [hz];have R:=list_run gA y.1 L _ _ _ _ g1 f2;cases k5:decide (v.FKind=(5:Int))<;>rw [k5] at e2 R<;>simp only [Bool.not_true,Bool.not_false,cond_true,cond_false] at e2 R
   ·obtain⟨q,eq,e2⟩:=bindO_some e2;cases e2;rcases R with ⟨⟨zz,rfl⟩,R⟩|⟨_,u,hu,R⟩
    ·obtain⟨c',M,z',hc',ez,he⟩:=R v (by simp);have:=IH m c' y.1 _ w M z' _ hc' hty hv' hw' ez eq;rw [he] at this; exact this
    ·simp only [List.mem_singleton] at hu;subst hu;obtain⟨c',M,z',hc',ez,he⟩:=R;have:=IH m c' y.1 _ w M z' _ hc' hty hv' hw' ez eq;rw [he] at this; exact this
   ·obtain⟨q,eq,e2⟩:=bindO_some e2;cases e2;rcases R with ⟨⟨zz,rfl⟩,R⟩|⟨hne,u,hu,R⟩
    ·right
     show (!q)=true;rcases anyV_is eq with ⟨rfl,_⟩|⟨rfl,p,hp,ep⟩
     ·rfl
     ·exfalso
      obtain⟨u,hu,hup⟩:=eqv_item' hv' hp;obtain⟨c',M,z',hc',ez,he⟩:=R u hu;obtain⟨m',em⟩:=fit1 ep;rcases IH m' c' y.1 u p M z' _ hc' hty hup (hw3 p hp) ez em with h|h
      ·rw [he] at h; exact not_lim0 h
      ·rw [he] at h; cases h
    ·obtain⟨p,hp,hup⟩:=eqv_item hv' hu;obtain⟨c',M,z',hc',ez,he⟩:=R;rcases anyV_is eq with ⟨rfl,ep⟩|⟨rfl,_⟩
     ·obtain⟨m',em⟩:=fit1 (ep p hp);have:=IH m' c' y.1 u p M z' _ hc' hty hup (hw3 p hp) ez em;rw [he] at this; exact this
     ·right; rw [decide_eq_false hne]; rfl
  ·rcases condT e1 with ⟨k3,e1⟩|⟨k3,e1⟩
   ·-- objects
    have e1:=bind3 e1;rw [g1.doc] at e1 k3;simp only [Bool.and_eq_true,decide_eq_true_eq] at k3;obtain⟨⟨k4,k5⟩,k6⟩:=k3;rw [k4,cond_true] at k5;have k5:Z74_q t.FName=false:=by simpa using k5
    have hs:=k5;unfold Z74_q at k5;simp only [Bool.or_eq_false_iff] at k5;obtain⟨⟨⟨s1,s2⟩,s3⟩,s4⟩:=k5;rw [s1,s2,s3,s4,k6] at e2;simp only [cond_false] at e2;rw [show decide ((5:Int)=4)=false from rfl,cond_false] at e2;cases n with
    | zero=>cases e1
    | succ n =>
    cases k7:decide (v.FKind=(6:Int))<;>rw [k7] at e2
    ·simp only [guardO,Bool.false_eq_true,if_false,Bool.false_and] at e2;rw [coerce_coercer_object_qn,k7] at e1;cases e1; cases e2; exact .inr rfl
    ·simp only [guardO,if_true,Bool.true_and] at e2;obtain⟨q,eq,e2⟩:=bindO_some e2;cases e2;cases m with
     | zero=>cases eq
     | succ m=>exact objB (allB hG N n m (by omega)) g1 (hG _ k6) hv' hw' (by rw [<- h1]; exact of_decide_eq_true k7) e1 eq
   ·-- leaves
    right
    rw [g1.doc] at k3;unfold Z14_q at e1;simp only [Ab.on,g1.lit,g1.doc,Bool.not_true,Bool.and_false,cond_false] at e1;rw [<- h2] at e2;cases s1:(t.FName==([73,110,116]:Bs))<;>rw [s1] at e1 e2<;>simp only [cond_true,cond_false] at e1 e2
    ·cases s2:(t.FName==([83,116,114,105,110,103]:Bs))<;>rw [s2] at e1 e2<;>simp only [cond_true,cond_false] at e1 e2
     ·cases s3:(t.FName==([66,111,111,108,101,97,110]:Bs))<;>rw [s3] at e1 e2<;>simp only [cond_true,cond_false] at e1 e2
      ·cases s4:(t.FName==([73,68]:Bs))<;>rw [s4] at e1 e2<;>simp only [cond_true,cond_false] at e1 e2
       ·have hs:Z74_q t.FName=false:=by unfold Z74_q; rw [s1,s2,s3,s4]; rfl
        have hk:(Z69_q d t.FName).1.FKind=4:=by
         rcases input_kind ht' hs with h|h
         ·exact h
         ·rw [found_kind (by rw [h]; decide),h,hs] at k3; cases k3
        rw [hk] at e2;simp only [decide_true,cond_true] at e2;have hf:(fun y0=>Z15_q y0 v)=fun y0=>Z30_q y0 w:=by
         funext y0; unfold Z15_q Z30_q; rw [h3]
        rw [hf] at e1;cases e2;exact err_of e1
       ·cases k5:decide (v.FKind=(2:Int))<;>rw [k5] at e1 e2<;>simp only [cond_true,cond_false,Bool.or_true,Bool.or_false] at e1 e2
        ·cases e2; rw [Option.bind_some] at e1; exact err_of e1
        ·cases e2;obtain⟨p,ep,e1⟩:=bindO_some e1;obtain⟨q,eq,ep⟩:=bindO_some ep;obtain⟨r,er,eq⟩:=bindO_some eq;cases eq;rw [show decide ((Z109_q r).FKind=(3:Int))=true from decide_eq_true rfl] at ep;cases ep; cases e1; rfl
      ·cases e2; exact err_of e1
     ·cases e2; exact err_of e1
    ·cases e2; exact err_of e1
end
end Go.Proofs

namespace Go.Proofs
open Go Go.Ab
theorem name_snd {c:Z2}{n a:Bs}{m:List Bs}{z:Z2×List Bs}(h:Z82_q c n a m=some z):z.2=insS m n:=by
 unfold Z82_q at h;obtain⟨_,_,h⟩:=bindO_some h;simp only [Ab.on] at h;obtain⟨_,_,h⟩:=bindO_some h;obtain⟨_,_,h⟩:=bindO_some h;cases h; rfl
theorem pname2 (c:Z2) (n a:Bs) (m:List Bs):SPp (Z82_q c n a m) c (m.contains n=false):=by
 unfold Z82_q;refine Ps.any fun x _=>?_;simp only [Ab.on];refine Ps.bind (paddS _ _ _ _) (Q:=m.contains n=false) (fun _ h=>h) fun c1 _ _=>?_;refine Ps.bind (paddS _ _ _ _) (Q:=True) (fun h _=>h) fun c2 _ _=>?_;exact Ps.pure rfl trivial
theorem insS_mem {l:List Bs}{s x:Bs}:x∈insS l s↔x∈l\/x=s:=by
 unfold insS
 split
 ·rename_i h
  have h:s∈l:=by simpa using h
  exact⟨.inl,fun h2=>h2.elim id fun e=>e▸h⟩
 ·simp
theorem pinputs2 (a2 a3:Bs):∀(l:List Z6) (c:Z2) (m:List Bs),SP (Z78_q5 a2 a3 l c m) c ((∀x∈l,x.FName∉m)/\NamesOk l/\∀x∈l,Kn c.Fd x.FType)
 | [],c,m=>Ps.pure rfl ⟨fun _ h=>(by cases h),List.nodup_nil,fun _ h=>(by cases h)⟩
 | x::r,c,m=>by
  rw [Z78_q5];simp only [Ab.on];refine Ps.any fun y _=>Ps.any fun z _=>?_;refine Ps.bind (pname2 _ _ _ _) (Q:=(∀y∈r,y.FName∉insS m x.FName)/\NamesOk r/\∀y∈x::r,Kn c.Fd y.FType) (fun h1 h2=>⟨fun y hy=>?_, ?_,h2.2.2⟩) fun c1 e1 f1=>?_
  ·rcases List.mem_cons.1 hy with rfl|hy
   ·simpa using h1
   ·exact fun h=>h2.1 y hy (insS_mem.2 (.inl h))
  ·unfold NamesOk at *;rw [List.map_cons,List.nodup_cons];refine⟨fun h=>?_,h2.2.1⟩;obtain⟨y,hy,e⟩:=List.mem_map.1 h;exact h2.1 y hy (insS_mem.2 (.inr e))
  ·refine Ps.bind (ptyp _ _ _ _) (Q:=(∀y∈r,y.FName∉insS m x.FName)/\NamesOk r/\∀y∈r,Kn c.Fd y.FType) (fun h h2=>⟨h2.1,h2.2.1,fun y hy=>?_⟩) fun c2 _ f2=>?_
   ·rcases List.mem_cons.1 hy with rfl|hy
    ·have:=h.2 (by decide); rw [f1] at this; exact this
    ·exact h2.2.2 y hy
   ·have:=pinputs2 a2 a3 r c2 c1.2;rw [show c2.Fd=c.Fd from f2.trans f1,name_snd e1] at this;rw [name_snd e1]; exact this
def DefSaidI (d:TDoc) (t:TDef):Prop:=t.FKind=5->NamesOk t.FInputs.l/\∀x∈t.FInputs.l,Kn d x.FType
theorem pdef2 {d:TDoc}{t:TDef}{i:Nat}(ht:d.FDefs.l[i]?=some t) (c:Z2) (hd:c.Fd=d) (m:List Bs):SPp (Z76_q c (i:Int) m) c (DefSaidI d t):=by
 unfold Z76_q;have hidx:idxC c.Fd.FDefs.l (i:Int)=some t:=by rw [hd]; unfold idxC; rw [if_pos (by simp),Int.toNat_natCast,ht]
 rw [hidx,Option.bind_some];simp only [Ab.on];refine Ps.any fun y _=>?_;refine Ps.bind (paddS _ _ _ _) (Q:=DefSaidI d t) (fun _ h=>h) fun c1 _ f1=>?_;refine Ps.bind (paddS _ _ _ _) (Q:=DefSaidI d t) (fun _ h=>h) fun c2 _ f2=>?_;refine Ps.bind (paddS _ _ _ _) (Q:=DefSaidI d t) (fun _ h=>h) fun c3 _ f3=>?_;refine Ps.bind (paddS _ _ _ _) (Q:=DefSaidI d t) (fun _ h=>h) fun c4 _ f4=>?_;refine Ps.guard fun w=>?_
 refine Ps.bind (paddS _ _ _ _) (Q:=DefSaidI d t) (fun _ h=>h) fun c5 _ f5=>?_;have hd5:c5.Fd=d:=f5.trans (f4.trans (f3.trans (f2.trans (f1.trans hd))));by_cases h5:t.FKind=5
 ·rw [h5];simp only [show decide ((5:Int)=1)=false from rfl,show decide ((5:Int)=2)=false from rfl,show decide ((5:Int)=4)=false from rfl,show decide ((5:Int)=5)=true from rfl,cond_false,cond_true];refine Ps.any fun z _=>?_;unfold Z78_q;refine Ps.bind (Ps.bind (pinputs2 _ _ _ _ _) (Q:=True) (fun h _=>h) fun c6 _ _=>Ps.pure rfl trivial) (Q:=True) (fun h _ _=>⟨h.2.1, ?_⟩) fun c7 _ _=>Ps.pure rfl trivial
  rw [<- hd5]; exact h.2.2
 ·have hs:DefSaidI d t:=fun h=>absurd h h5;have any:∀{α:Type}{o:Option α}{pr:α->Z2},Ps Z2.Fd (fun c=>c.Ffaults.l.length) pr o c5 True->Ps Z2.Fd (fun c=>c.Ffaults.l.length) pr o c5 (DefSaidI d t):=fun h=>h.mono fun _=>hs;refine any ?_;refine Ps.cond (fun hk=>?_) fun hk=>?_
  ·unfold Z77_q;exact Ps.bind (Ps.bind (pfields _ _ _ _) (Q:=True) (fun _ _=>trivial) fun c6 _ _=>Ps.pure rfl trivial) (Q:=True) (fun _ _=>trivial) fun c7 _ _=>Ps.pure rfl trivial
  ·refine Ps.cond (fun _=>?_) fun _=>Ps.cond (fun _=>?_) fun _=>Ps.pure rfl trivial
   ·unfold Z81_q;exact Ps.bind (Ps.bind (pmembers _ _ _ _) (Q:=True) (fun _ _=>trivial) fun c6 _ _=>Ps.pure rfl trivial) (Q:=True) (fun _ _=>trivial) fun c7 _ _=>Ps.pure rfl trivial
   ·refine Ps.any fun z _=>?_;unfold Z78_q;exact Ps.bind (Ps.bind (pinputs _ _ _ _ _) (Q:=True) (fun h _=>trivial) fun c6 _ _=>Ps.pure rfl trivial) (Q:=True) (fun _ _=>trivial) fun c7 _ _=>Ps.pure rfl trivial
theorem pcheck2 {d:TDoc}:∀(l:List TDef) (i:Nat) (c:Z2) (m:List Bs),d.FDefs.l.drop i=l->c.Fd=d->SP (Z66_q20 l i c m) c (∀t∈l,DefSaidI d t)
 | [],i,c,m,_,_=>Ps.pure rfl fun _ h=>by cases h
 | t::r,i,c,m,hl,hd=>by
  obtain⟨t1,t2⟩:=drop_nextS hl;rw [Z66_q20];refine Ps.bind (pdef2 t2 c hd m) (Q:=∀t∈r,DefSaidI d t) (fun h h2 y hy=>?_) fun c1 _ f1=>?_
  ·rcases List.mem_cons.1 hy with rfl|hy
   ·exact h
   ·exact h2 y hy
  ·exact pcheck2 r (i+1) c1.1 c1.2 t1 (f1.trans hd)
theorem schema_said2 {d:TDoc}{b:Bool}{l:Sl Z3}(h:Z66_q d b=some l) (h0:l.l=[]):∀t∈d.FDefs.l,DefSaidI d t:=by
 unfold Z66_q at h;cases e:Z66_q20 d.FDefs.l 0 (Z2.mk d (Sl.nil:Sl Z3)) [] with
 | none=>rw [e] at h; cases h
 | some c =>
  obtain⟨_,_,h3⟩:=pcheck2 (d:=d) d.FDefs.l 0 _ [] rfl rfl c e;refine h3 ?_;show c.Ffaults.l.length=0;rw [e,Option.bind_some] at h;simp only [Ab.on] at h;have key:SP (bif b&&!(Z69_q d ([81,117,101,114,121]:Bs)).2 then((Z75_q c true (30:Int) ([81,117,101,114,121]:Bs)).bind fun x17=>some x17) else(some c)) c True:=by
   refine Ps.cond (fun _=>?_) fun _=>Ps.pure rfl trivial;exact Ps.bind (paddS _ _ _ _) (Q:=True) (fun _ _=>trivial) fun c1 _ _=>Ps.pure rfl trivial
  revert key h
  generalize (bif b&&!(Z69_q d ([81,117,101,114,121]:Bs)).2 then((Z75_q c true (30:Int) ([81,117,101,114,121]:Bs)).bind fun x17=>some x17) else(some c))=o;intro h key;cases o with
  | none=>cases h
  | some v =>
   obtain⟨_,k2,_⟩:=key v rfl;have:v.Ffaults=l:=Option.some.inj h;have k2:c.Ffaults.l.length<=v.Ffaults.l.length:=k2;rw [this,h0] at k2
   simpa using k2
theorem inGood {d:TDoc}(h:∀t∈d.FDefs.l,DefSaidI d t){nm:Bs}(h5:(Z69_q d nm).1.FKind=5):NamesOk (Z69_q d nm).1.FInputs.l/\∀x∈(Z69_q d nm).1.FInputs.l,Kn d x.FType:=by
 have hf:=found_kind (d:=d) (nm:=nm) (by rw [h5]; decide);rw [find_eq] at hf h5 ⊢;have:(fnd d.FDefs.l nm).1∈d.FDefs.l:=by
  unfold fnd at hf ⊢;cases e:d.FDefs.l.find? (fun t=>t.FName==nm) with
  | none=>rw [e] at hf; cases hf
  | some t=>exact List.mem_of_find?_eq_some e
 exact h _ this h5
theorem def1_said {d:TDoc}{x:Z6}{a:Bs}{s s':Sl Z3}(h:Z11_q x a d s=some s'):s.l.length<=s'.l.length/\(s'.l.length=s.l.length->x.FHas=true->∃r,Z12_q d x.FType x.FDefault nilV=some (r,0)):=by
 unfold Z11_q at h;rcases condT h with ⟨h1,h⟩|⟨h1,h⟩
 ·cases h; exact⟨Nat.le_refl _,fun _ h2=>by rw [h2] at h1; cases h1⟩
 ·obtain⟨z,ez,h⟩:=bindO_some h;rcases condT h with ⟨h2,h⟩|⟨h2,h⟩
  ·obtain⟨y,ey,h⟩:=bindO_some h;cases h;have:=len_appC ey;simp only [List.length_singleton] at this;exact⟨by omega,fun e=>by omega⟩
  ·cases h;have h2:z.2=0:=by simpa using h2
   exact⟨Nat.le_refl _,fun _ _=>⟨z.1,by rw [<- h2]; exact ez⟩⟩
theorem defQ51 {d:TDoc}{t:TDef}{f:Z4}:∀(l:List Z6) (s s':Sl Z3),Z10_q51 d t f l s=some s'->s.l.length<=s'.l.length
 | [],s,s',h=>by rw [Z10_q51] at h; cases h; exact Nat.le_refl _
 | x::r,s,s',h=>by
  rw [Z10_q51] at h;simp only [Ab.on] at h;obtain⟨_,_,h⟩:=bindO_some h;obtain⟨_,_,h⟩:=bindO_some h;obtain⟨_,_,h⟩:=bindO_some h;obtain⟨_,_,h⟩:=bindO_some h;obtain⟨_,_,h⟩:=bindO_some h;obtain⟨y,ey,h⟩:=bindO_some h;exact Nat.le_trans (def1_said ey).1 (defQ51 r y s' h)
theorem defQ39 {d:TDoc}{t:TDef}:∀(l:List Z4) (s s':Sl Z3),Z10_q39 d t l s=some s'->s.l.length<=s'.l.length
 | [],s,s',h=>by rw [Z10_q39] at h; cases h; exact Nat.le_refl _
 | x::r,s,s',h=>by
  rw [Z10_q39] at h;simp only [Ab.on] at h;obtain⟨y,ey,h⟩:=bindO_some h;exact Nat.le_trans (defQ51 _ _ _ ey) (defQ39 r y s' h)
theorem defQ25 {d:TDoc}{t:TDef}:∀(l:List Z6) (s s':Sl Z3),Z10_q25 d t l s=some s'->s.l.length<=s'.l.length/\(s'.l.length=s.l.length->∀x∈l,x.FHas=true->∃r,Z12_q d x.FType x.FDefault nilV=some (r,0))
 | [],s,s',h=>by rw [Z10_q25] at h; cases h; exact⟨Nat.le_refl _,fun _ _ h=>by cases h⟩
 | x::r,s,s',h=>by
  rw [Z10_q25] at h;simp only [Ab.on] at h;obtain⟨_,_,h⟩:=bindO_some h;obtain⟨_,_,h⟩:=bindO_some h;obtain⟨y,ey,h⟩:=bindO_some h;obtain⟨a1,a2⟩:=def1_said ey;obtain⟨b1,b2⟩:=defQ25 r y s' h;exact⟨by omega,fun e z hz=>by rcases List.mem_cons.1 hz with rfl|hz; exact a2 (by omega); exact b2 (by omega) z hz⟩
theorem defQ11 {d:TDoc}:∀(l:List TDef) (s s':Sl Z3),Z10_q11 d l s=some s'->s.l.length<=s'.l.length/\(s'.l.length=s.l.length->∀t∈l,∀x∈t.FInputs.l,x.FHas=true->∃r,Z12_q d x.FType x.FDefault nilV=some (r,0))
 | [],s,s',h=>by rw [Z10_q11] at h; cases h; exact⟨Nat.le_refl _,fun _ _ h=>by cases h⟩
 | t::r,s,s',h=>by
  rw [Z10_q11] at h;simp only [Ab.on] at h;obtain⟨y,ey,h⟩:=bindO_some h;obtain⟨z,ez,h⟩:=bindO_some h;have a1:=defQ39 _ _ _ ey;obtain⟨b1,b2⟩:=defQ25 _ _ _ ez;obtain⟨c1,c2⟩:=defQ11 r z s' h;exact⟨by omega,fun e u hu=>by rcases List.mem_cons.1 hu with rfl|hu; exact b2 (by omega); exact c2 (by omega) u hu⟩
theorem defaults_said {d:TDoc}{l:Sl Z3}(h:Z10_q d=some l) (h0:l.l=[]):∀t∈d.FDefs.l,∀x∈t.FInputs.l,x.FHas=true->∃r,Z12_q d x.FType x.FDefault nilV=some (r,0):=by
 unfold Z10_q at h;obtain⟨s,es,h⟩:=bindO_some h;simp only [Ab.on] at h;cases h;exact(defQ11 _ _ _ es).2 (by rw [h0]; rfl)
theorem literal_at {d:TDoc}{t:TRef}{v:Z9}{r:Z9}(h:Z12_q d t v nilV=some (r,0)):∃z,coerce_coercer_at_qn F0 (Z0.mk d nilV true 0) t v 1=some z/\z.2.1=0:=by
 unfold Z12_q at h;obtain⟨m,_,h⟩:=bindO_some h;rcases condT h with ⟨_,h⟩|⟨_,h⟩
 ·simp only [Ab.on] at h;rcases condT h with ⟨_,h⟩|⟨_,h⟩<;>cases h
 ·obtain⟨z,ez,h⟩:=bindO_some h;obtain⟨y,ey,h⟩:=bindO_some h;refine⟨z,ez, ?_⟩;obtain⟨y1,y2⟩:=y;cases h;unfold Z20_q at ey;rcases condT ey with ⟨h1,ey⟩|⟨h1,ey⟩
  ·exact(Prod.mk.inj (Option.some.inj ey)).2
  ·simpa using h1
end Go.Proofs

namespace Go.Proofs
open Go Go.Ab
theorem tw13 {a:Sl Bs}{x:Bs}:∀(m i:Nat) (o),Z47_q13 a x m i=some o->(o=.inl ()/\∀j,i<=j->j<i+m->a.l[j]?≠some x)\/o=.inr true
 | 0,i,o,h=>by rw [Z47_q13] at h; cases h; exact .inl ⟨rfl,fun j h1 h2=>by omega⟩
 | m+1,i,o,h=>by
  rw [Z47_q13] at h;simp only [Ab.on] at h;obtain⟨y,ey,h⟩:=bindO_some h;rcases condT h with ⟨_,h⟩|⟨hn,h⟩
  ·cases h; exact .inr rfl
  ·rcases tw13 m (i+1) o h with ⟨e,h2⟩|e
   ·refine .inl ⟨e,fun j h3 h4=>?_⟩;rcases Nat.eq_or_lt_of_le h3 with rfl|h3
    ·rw [ey]; intro e; cases e; simp at hn
    ·exact h2 j h3 (by omega)
   ·exact .inr e
theorem tw5 {a:Sl Bs}:∀(l:List Bs) (i:Nat) (o),a.l.drop i=l->Z47_q5 a l i=some o->(o=.inl ()/\∀(k:Nat) s,i<=k->a.l[k]?=some s->∀j<k,a.l[j]?≠some s)\/o=.inr true
 | [],i,o,hd,h=>by
  rw [Z47_q5] at h; cases h;refine .inl ⟨rfl,fun k s h1 h2=>?_⟩;have h3:=List.drop_eq_nil_iff.1 hd;have h4:=(List.getElem?_eq_some_iff.1 h2).1;omega
 | x::r,i,o,hd,h=>by
  have hd2:a.l.drop (i+1)=r:=by rw [<- List.drop_drop,hd]; rfl
  have hx:a.l[i]?=some x:=by rw [<- List.head?_drop,hd]; rfl
  rw [Z47_q5] at h;obtain⟨p,ep,h⟩:=bindO_some h;rcases tw13 i 0 p ep with ⟨rfl,g⟩|rfl
  ·simp only [Ab.on] at h;rcases tw5 r (i+1) o hd2 h with ⟨e,h2⟩|e
   ·refine .inl ⟨e,fun k s h3 h4 j hj=>?_⟩;rcases Nat.eq_or_lt_of_le h3 with rfl|h3
    ·rw [hx] at h4; cases h4; exact g j (Nat.zero_le _) (by omega)
    ·exact h2 k s h3 h4 j hj
   ·exact .inr e
  ·cases h; exact .inr rfl
theorem twice_nodup {a:Sl Bs}(h:Z47_q a=some false):a.l.Nodup:=by
 unfold Z47_q at h;obtain⟨o,e,h⟩:=bindO_some h;rcases tw5 a.l 0 o rfl e with ⟨rfl,g⟩|rfl
 ·refine List.pairwise_iff_getElem.2 fun i j hi hj hij e=>?_;exact g j _ (Nat.zero_le _) (List.getElem?_eq_getElem hj) i hij (by rw [List.getElem?_eq_getElem hi,e])
 ·cases h
theorem node_obj {v:Z9}{b:Bool}(h:Z46_q v b=some true) (h6:v.FKind=6):v.FKeys.l.Nodup/\v.FKeys.l.length=v.FItems.l.length:=by
 unfold Z46_q at h;rw [h6] at h;simp only [show decide ((6:Int)=0)=false from rfl,show decide ((6:Int)=1)=false from rfl,show decide ((6:Int)=2)=false from rfl,show decide ((6:Int)=3)=false from rfl,show decide ((6:Int)=4)=false from rfl,show decide ((6:Int)=5)=false from rfl,show decide ((6:Int)=6)=true from rfl,cond_false,cond_true] at h;rcases guardT h with ⟨hc,x,ex,h⟩|⟨hc,h⟩
 ·rw [hc] at h;have hx:x=false:=by simpa using h
  subst hx;simp only [Bool.and_eq_true,decide_eq_true_eq] at hc;exact⟨twice_nodup ex,by omega⟩
 ·rw [hc] at h; simp at h
theorem items_all {b:Bool}{k:Z9->Bool->Option Bool}:∀(l:List Z9) (o),Z48_q11 b k l=some o->(o=.inl ()/\∀x∈l,k x b=some true)\/o=.inr false
 | [],o,h=>by rw [Z48_q11] at h; cases h; exact .inl ⟨rfl,fun _ h=>by cases h⟩
 | x::r,o,h=>by
  rw [Z48_q11] at h;simp only [Ab.on] at h;obtain⟨y,ey,h⟩:=bindO_some h;rcases condT h with ⟨_,h⟩|⟨hn,h⟩
  ·cases h; exact .inr rfl
  ·have hn:y=true:=by simpa using hn
   subst hn;rcases items_all r o h with ⟨e,h2⟩|e
   ·exact .inl ⟨e,fun z hz=>by rcases List.mem_cons.1 hz with rfl|hz; exact ey; exact h2 z hz⟩
   ·exact .inr e
theorem names_inl {b:Bool}:∀(l:List Bs),Z48_q24 b l=.inl ()\/Z48_q24 b l=.inr false
 | []=>.inl rfl
 | x::r=>by
  rw [Z48_q24];simp only [Ab.on];cases b&&!(bif b then Z40_q (bif b then x else []) else false)
  ·exact names_inl r
  ·exact .inr rfl
theorem consts_all {k:Z9->Option Bool}:∀(l:List Z9) (o),Z37_q5 k l=some o->(o=.inl ()/\∀x∈l,k x=some true)\/o=.inr false
 | [],o,h=>by rw [Z37_q5] at h; cases h; exact .inl ⟨rfl,fun _ h=>by cases h⟩
 | x::r,o,h=>by
  rw [Z37_q5] at h;simp only [Ab.on] at h;obtain⟨y,ey,h⟩:=bindO_some h;rcases condT h with ⟨_,h⟩|⟨hn,h⟩
  ·cases h; exact .inr rfl
  ·have hn:y=true:=by simpa using hn
   subst hn;rcases consts_all r o h with ⟨e,h2⟩|e
   ·exact .inl ⟨e,fun z hz=>by rcases List.mem_cons.1 hz with rfl|hz; exact ey; exact h2 z hz⟩
   ·exact .inr e
theorem kc_of:∀(n m:Nat) (v:Z9),Z48_qn n v true=some true->Z37_qn m v=some true->Kc v
 | 0,_,_,h,_=>by cases h
 | _+1,0,_,_,h=>by cases h
 | n+1,m+1,v,h1,h2=>by
  rw [Z48_qn] at h1;obtain⟨x,ex,h1⟩:=bindO_some h1;rcases condT h1 with ⟨_,h1⟩|⟨hx,h1⟩
  ·cases h1
  have hx:x=true:=by simpa using hx
  subst hx;simp only [Ab.on] at h1;have hitems:∀y∈v.FItems.l,Z48_qn n y true=some true:=by
   rcases names_inl (b:=true) v.FKeys.l with e|e<;>rw [e] at h1
   ·obtain⟨o,eo,h1⟩:=bindO_some h1;rcases items_all _ _ eo with ⟨_,h⟩|rfl
    ·exact h
    ·cases h1
   ·cases h1
  rw [Z37_qn] at h2;obtain⟨o,eo,h2⟩:=bindO_some h2;rcases consts_all _ _ eo with ⟨rfl,hc⟩|rfl
  ·have h7:v.FKind≠7:=by
    have:(!decide (v.FKind=(7:Int)))=true:=Option.some.inj h2
    simpa using this
   exact⟨h7,fun h6=>node_obj ex h6,fun y hy=>kc_of n m y (hitems y hy) (hc y hy)⟩
  ·cases h2
theorem literal_whole {v:Z9}(h:Z44_q v=some true):Z48_qn F0 v true=some true:=by
 unfold Z44_q at h;obtain⟨a,_,h⟩:=bindO_some h;rcases guardT h with ⟨_,b,_,h⟩|⟨_,h⟩
 ·rcases guardT h with ⟨_,c,e,h⟩|⟨_,h⟩
  ·simp at h; rw [h.2] at e; exact e
  ·simp at h
 ·rcases guardT h with ⟨_,c,e,h⟩|⟨_,h⟩
  ·simp at h; rw [h.2] at e; exact e
  ·simp at h
theorem eqv_refl:∀(n:Nat) (v:Z9),v.sz<=n->v.wf->Eqv v v
 | 0,v,h,_=>by have:=v.pos; omega
 | n+1,v,h,hw=>by
  refine⟨rfl,rfl,rfl,rfl,rfl,(Z9.FKeys_wf hw).1,fun i x y hx hy=>?_⟩;rw [hx] at hy; cases hy;have hm:=List.mem_of_getElem? hx;have h1:=Sl.mem_le (f:=Z9.sz) hm; have h2:=v.sz_def;exact eqv_refl n x (by omega) ((Z9.FItems_wf hw).2.2 x hm)
theorem constant_tot:∀(n:Nat) (v:Z9),v.sz<=n->Ok (Z37_qn n v)
 | 0,v,h=>by have:=v.pos; omega
 | n+1,v,h=>by
  have loop:∀l:List Z9,(∀x∈l,x.sz<=n)->Ok (Z37_q5 (Z37_qn n) l):=by
   intro l;induction l with
   | nil=>intro _; exact⟨_,rfl⟩
   | cons x r ih =>
    intro hl;obtain⟨b,eb⟩:=constant_tot n x (hl x (.head _));obtain⟨o,eo⟩:=ih fun y hy=>hl y (.tail _ hy);rw [Z37_q5];simp only [Ab.on,eb,Option.bind_some,eo];cases b<;>exact⟨_,rfl⟩
  obtain⟨o,eo⟩:=loop v.FItems.l fun x hx=>by have:=Sl.mem_le (f:=Z9.sz) hx; have:=v.sz_def; omega
  rw [Z37_qn,eo,Option.bind_some];cases o<;>exact⟨_,rfl⟩
end Go.Proofs

namespace Go.Proofs
open Go Go.Ab
def sQueryL:Bs:=[81,117,101,114,121]
def qdef (t:TRef):TDef:=TDef.mk (1:Int) ([81,117,101,114,121]:Bs) (Sl.nil:Sl Bs) (Sl.nil:Sl TDir) (⟨false,[(Z4.mk ([102]:Bs) (⟨false,[(Z6.mk ([120]:Bs) t false Z9.zero (Sl.nil:Sl TDir))]⟩:Sl Z6) ⟨[73,110,116],Sl.nil⟩ (Sl.nil:Sl TDir))]⟩:Sl Z4) (Sl.nil:Sl Z7) (Sl.nil:Sl Z6)
def more (nl:Bool) (d:TDoc) (t:TRef):TDoc:=TDoc.mk ⟨nl,d.FDefs.l++[qdef t]⟩
def oneQ (v:Z9):Z8:=Z8.mk (⟨false,[(TOp.mk (1:Int) ([]:Bs) (Sl.nil:Sl TVar) (⟨false,[(TSel.mk (1:Int) ([]:Bs) ([102]:Bs) ([]:Bs) (⟨false,[(TArg.mk ([120]:Bs) v)]⟩:Sl TArg) (Sl.nil:Sl TDir) true ([]))]⟩:Sl TSel))]⟩:Sl TOp) (Sl.nil:Sl Z5)
section
variable {d:TDoc}{t:TRef}{nl:Bool}
theorem more_find (nm:Bs):Z69_q (more nl d t) nm=bif (Z69_q d nm).2 then Z69_q d nm else bif sQueryL==nm then(qdef t,true) else(TDef.zero,false):=by
 rw [find_eq,find_eq];show fnd (d.FDefs.l++[qdef t]) nm=_;unfold fnd;rw [List.find?_append];cases e:d.FDefs.l.find? (fun t=>t.FName==nm) with
 | some x=>rfl
 | none =>
  show (match (none.or ([qdef t].find? fun t=>t.FName==nm)) with|some t=>(t,true)|none=>(TDef.zero,false))=_;rw [Option.none_or,List.find?_cons];rw [show (qdef t).FName=sQueryL from rfl];cases sQueryL==nm<;>rfl
theorem find_none {nm:Bs}(h:(Z69_q d nm).2=false):(Z69_q d nm).1=TDef.zero:=by
 rw [find_eq] at h ⊢;unfold fnd at h ⊢;cases e:d.FDefs.l.find? (fun t=>t.FName==nm) with
 | none=>rfl
 | some t=>rw [e] at h; cases h
theorem more_agree:Agree d (more nl d t):=fun nm hn=>by
 rw [more_find];cases hf:(Z69_q d nm).2
 ·have hs:Z74_q nm=true:=by
   cases hs:Z74_q nm
   ·have:=input_kind hn hs;rw [find_none hf] at this;rcases this with h|h<;>cases h
   ·rfl
  have hne:(sQueryL==nm)=false:=by
   rw [beq_eq_false_iff_ne]; intro e; rw [<- e] at hs; cases hs
  rw [hne,cond_false,cond_false];have h1:=find_none hf;generalize Z69_q d nm=z at hf h1;obtain⟨a,b⟩:=z;simp only at hf h1;rw [hf,h1]
 ·rfl
theorem more_query (h:(Z69_q d sQueryL).2=false):Z69_q (more nl d t) sQueryL=(qdef t,true):=by
 rw [more_find,h]; rfl
theorem more_good (hd:∀t∈d.FDefs.l,DefSaidI d t) (hD:∀t∈d.FDefs.l,∀x∈t.FInputs.l,x.FHas=true->∃r,Z12_q d x.FType x.FDefault nilV=some (r,0)){nm:Bs}(h5:(Z69_q (more nl d t) nm).1.FKind=5):InGood (more nl d t) (Z69_q (more nl d t) nm).1:=by
 have hI:InIn d:=fun nm h=>(inGood hd h).2;cases hf:(Z69_q d nm).2
 ·rw [more_find,hf,cond_false] at h5;cases hq:sQueryL==nm<;>rw [hq] at h5<;>cases h5
 ·have e:Z69_q (more nl d t) nm=Z69_q d nm:=by rw [more_find,hf]; rfl
  rw [e] at h5 ⊢;obtain⟨h1,h2⟩:=inGood hd h5;refine⟨h1,fun x hx=>⟨more_agree.input (h2 x hx),fun hh k c L z hc hz=>?_⟩⟩;have hm:(Z69_q d nm).1∈d.FDefs.l:=by
   rw [find_eq] at hf ⊢;unfold fnd at hf ⊢;cases e:d.FDefs.l.find? (fun t=>t.FName==nm) with
   | none=>rw [e] at hf; cases hf
   | some t=>exact List.mem_of_find?_eq_some e
  obtain⟨r,er⟩:=hD _ hm x hx hh;obtain⟨z0,ez0,e0⟩:=literal_at er;have:=(all_same (d:=d) (d':=more nl d t) more_agree hI F0 k).1 x.FType x.FDefault 1 L _ c z0 z ⟨rfl,rfl,rfl⟩ hc (h2 x hx) ez0 hz;rcases this with h|h|h
  ·rw [e0] at h; exact absurd h not_lim0
  ·exact .inr h
  ·exact .inl (h.symm.trans e0)
theorem more_ok (hd:DefsOk d) (ht:SOk t.FWraps):DefsOk (more nl d t):=by
 intro x hx;rcases List.mem_append.1 hx with hx|hx
 ·exact hd x hx
 ·rw [List.mem_singleton.1 hx];refine⟨Nat.le_of_ble_eq_true rfl,Nat.le_of_ble_eq_true rfl,fun f hf=>?_,fun i hi=>by cases hi⟩;have hf:f∈[(Z4.mk ([102]:Bs) (⟨false,[(Z6.mk ([120]:Bs) t false Z9.zero (Sl.nil:Sl TDir))]⟩:Sl Z6) ⟨[73,110,116],Sl.nil⟩ (Sl.nil:Sl TDir))]:=hf;rw [List.mem_singleton.1 hf];refine⟨⟨fun _=>rfl,Nat.le_of_ble_eq_true rfl⟩,Nat.le_of_ble_eq_true rfl,fun i hi=>?_⟩;have hi:i∈[(Z6.mk ([120]:Bs) t false Z9.zero (Sl.nil:Sl TDir))]:=hi
  rw [List.mem_singleton.1 hi]; exact ht
end
end Go.Proofs

namespace Go.Proofs
open Go Go.Ab
section
variable {d:TDoc}{t:TRef}{nl:Bool}
theorem roots_one (k:Nat) (c:Z1) (v:Z9):Z29_qn (k+1) c (⟨false,[(TSel.mk (1:Int) ([]:Bs) ([102]:Bs) ([]:Bs) (⟨false,[(TArg.mk ([120]:Bs) v)]⟩:Sl TArg) (Sl.nil:Sl TDir) true ([]))]⟩:Sl TSel) ([]:List Bs) ([]:List Bs)=some ([[102]],[]):=by
 rw [Z29_qn]; rfl
theorem type_one (h:(Z69_q d sQueryL).2=false):Z22_q (more nl d t) sQueryL [102]=some (⟨[73,110,116],Sl.nil⟩,true):=by
 have hq:=more_query (t:=t) (nl:=nl) h;unfold Z22_q Z67_q Z84_q;simp only [Ab.on,hq];rfl
theorem check_one (h:(Z69_q d sQueryL).2=false) (v:Z9){b:Bool}(hb:fields_fits_q (more nl d t) t v=some b):∃l,Z21_q (more nl d t) (oneQ v)=some l/\l.l=bif b then [] else [Z3.mk 23 [47,102]]:=by
 have hq:=more_query (t:=t) (nl:=nl) h;have hT:=type_one (t:=t) (nl:=nl) h;have hcI:Z67_q (more nl d t) [73,110,116]=false:=by unfold Z67_q; rfl
 have hc0:Z72_q (more nl d t) [73,110,116]=true:=by unfold Z72_q; rfl
 obtain⟨k,hk⟩:∃k,F0=k+1+1:=⟨F0-2,by rw [F0_eq]⟩;have hroots:=roots_one (k+1) (Z1.mk (more nl d t) (oneQ v) (Sl.nil:Sl Z3)) v
 -- the field
 have hfield:∃c,Z27_qn (k+1) (Z1.mk (more nl d t) (oneQ v) (Sl.nil:Sl Z3)) (TSel.mk (1:Int) ([]:Bs) ([102]:Bs) ([]:Bs) (⟨false,[(TArg.mk ([120]:Bs) v)]⟩:Sl TArg) (Sl.nil:Sl TDir) true ([])) sQueryL []=(fields_checker_sels_qn k c (Sl.nil:Sl TSel) [73,110,116] [47,102]).bind (fun x=>some x)/\c.Fout.l=bif b then [] else [Z3.mk 23 [47,102]]:=by
  rw [Z27_qn];simp only [Ab.on];rw [show (bif ((TSel.mk (1:Int) ([]:Bs) ([102]:Bs) ([]:Bs) (⟨false,[(TArg.mk ([120]:Bs) v)]⟩:Sl TArg) (Sl.nil:Sl TDir) true ([])).FAlias==([]:Bs)) then(TSel.mk (1:Int) ([]:Bs) ([102]:Bs) ([]:Bs) (⟨false,[(TArg.mk ([120]:Bs) v)]⟩:Sl TArg) (Sl.nil:Sl TDir) true ([])).FName else(TSel.mk (1:Int) ([]:Bs) ([102]:Bs) ([]:Bs) (⟨false,[(TArg.mk ([120]:Bs) v)]⟩:Sl TArg) (Sl.nil:Sl TDir) true ([])).FAlias)=[102] from rfl]
  rw [show catC ([47]:Bs) [102]=some [47,102] from rfl,Option.bind_some,show catC ([]:Bs) [47,102]=some [47,102] from rfl,Option.bind_some];rw [show Z101_q (TSel.mk (1:Int) ([]:Bs) ([102]:Bs) ([]:Bs) (⟨false,[(TArg.mk ([120]:Bs) v)]⟩:Sl TArg) (Sl.nil:Sl TDir) true ([])).FAlias=false from rfl];rw [show ∀c e s,Z24_q c false e s=some c from fun _ _ _=>rfl,Option.bind_some];show ∃c,(Option.bind (Z22_q (more nl d t) sQueryL [102]) fun x12=>_)=_/\_
  rw [hT,Option.bind_some];simp only [Bool.not_true,cond_false,Bool.false_and,cond_true];rw [show ∀c e s,Z24_q c false e s=some c from fun _ _ _=>rfl,Option.bind_some];simp only [hc0,hcI,hq];show ∃c,(Option.bind (Option.bind (Z24_q _ false (21:Int) [47,102]) fun x27=>_) fun y17_c0=>_)=_/\_;rw [show ∀c e s,Z24_q c false e s=some c from fun _ _ _=>rfl,Option.bind_some];simp only [hq];have hknown:∀c:Z1,c.Fd=more nl d t->Z28_q c (⟨false,[(Z6.mk ([120]:Bs) t false Z9.zero (Sl.nil:Sl TDir))]⟩:Sl Z6) (⟨false,[(TArg.mk ([120]:Bs) v)]⟩:Sl TArg) false [47,102]=(Z24_q c ((!b)||false) 23 [47,102]):=by
   intro c hc;unfold Z28_q;rw [Z28_q3];simp only [Ab.on];show (Option.bind (Option.bind ((fields_fits_q c.Fd t v).bind fun x23=>(Z24_q c ((!x23)||false) (23:Int) [47,102]).bind fun x24=>some x24) fun y10_c0=>Z28_q3 _ _ _ _ [] _ y10_c0) fun y5_c0=>some y5_c0)=_;rw [hc,hb,Option.bind_some];cases Z24_q c ((!b)||false) (23:Int) [47,102]<;>rfl
  have e37:∀c,Z27_q37 (TSel.mk (1:Int) ([]:Bs) ([102]:Bs) ([]:Bs) (⟨false,[(TArg.mk ([120]:Bs) v)]⟩:Sl TArg) (Sl.nil:Sl TDir) true ([])) [47,102] [(Z6.mk ([120]:Bs) t false Z9.zero (Sl.nil:Sl TDir))] c=some c:=fun c=>by
    rw [Z27_q37];simp only [Ab.on];rw [show (Z31_q (TSel.mk (1:Int) ([]:Bs) ([102]:Bs) ([]:Bs) (⟨false,[(TArg.mk ([120]:Bs) v)]⟩:Sl TArg) (Sl.nil:Sl TDir) true ([])).FArgs (Z6.mk ([120]:Bs) t false Z9.zero (Sl.nil:Sl TDir)).FName).2=true from rfl];simp only [Bool.not_true,Bool.and_false];rfl
  show ∃c,(Option.bind (Option.bind (Z28_q (Z1.mk (more nl d t) (oneQ v) (Sl.nil:Sl Z3)) (⟨false,[(Z6.mk ([120]:Bs) t false Z9.zero (Sl.nil:Sl TDir))]⟩:Sl Z6) (⟨false,[(TArg.mk ([120]:Bs) v)]⟩:Sl TArg) false [47,102]) fun x34=>_) fun y17_c0=>_)=_/\_;rw [hknown _ rfl];cases b
  ·rw [show Z24_q (Z1.mk (more nl d t) (oneQ v) (Sl.nil:Sl Z3)) ((!false)||false) (23:Int) [47,102]=some (Z1.mk (more nl d t) (oneQ v) ⟨false,[Z3.mk 23 [47,102]]⟩) from rfl];refine⟨Z1.mk (more nl d t) (oneQ v) ⟨false,[Z3.mk 23 [47,102]]⟩, ?_,rfl⟩;simp only [Option.bind_some];show (Option.bind (Option.bind (Z27_q37 (TSel.mk (1:Int) ([]:Bs) ([102]:Bs) ([]:Bs) (⟨false,[(TArg.mk ([120]:Bs) v)]⟩:Sl TArg) (Sl.nil:Sl TDir) true ([])) [47,102] [(Z6.mk ([120]:Bs) t false Z9.zero (Sl.nil:Sl TDir))] _) _) _)=_
   rw [e37,Option.bind_some];rfl
  ·rw [show Z24_q (Z1.mk (more nl d t) (oneQ v) (Sl.nil:Sl Z3)) ((!true)||false) (23:Int) [47,102]=some (Z1.mk (more nl d t) (oneQ v) (Sl.nil:Sl Z3)) from rfl];refine⟨Z1.mk (more nl d t) (oneQ v) (Sl.nil:Sl Z3), ?_,rfl⟩;simp only [Option.bind_some];show (Option.bind (Option.bind (Z27_q37 (TSel.mk (1:Int) ([]:Bs) ([102]:Bs) ([]:Bs) (⟨false,[(TArg.mk ([120]:Bs) v)]⟩:Sl TArg) (Sl.nil:Sl TDir) true ([])) [47,102] [(Z6.mk ([120]:Bs) t false Z9.zero (Sl.nil:Sl TDir))] _) _) _)=_
   rw [e37,Option.bind_some];rfl
 obtain⟨c,hf,ho⟩:=hfield;have hs0:∀c:Z1,fields_checker_sels_qn k c (Sl.nil:Sl TSel) [73,110,116] [47,102]=some c\/k=0:=fun c=>by
  cases k with
  | zero=>exact .inr rfl
  | succ k=>left; rw [fields_checker_sels_qn]; rfl
 have hk0:k≠0:=fun e=>by rw [e,F0_eq] at hk; omega
 have hs1:=(hs0 c).resolve_right hk0;rw [hs1,Option.bind_some] at hf;refine⟨c.Fout, ?_,ho⟩;unfold Z21_q;rw [show (oneQ v).FOps.l=[(TOp.mk (1:Int) ([]:Bs) (Sl.nil:Sl TVar) (⟨false,[(TSel.mk (1:Int) ([]:Bs) ([102]:Bs) ([]:Bs) (⟨false,[(TArg.mk ([120]:Bs) v)]⟩:Sl TArg) (Sl.nil:Sl TDir) true ([]))]⟩:Sl TSel))] from rfl];rw [Z21_q24];simp only [Ab.on];rw [show Z73_q (TOp.mk (1:Int) ([]:Bs) (Sl.nil:Sl TVar) (⟨false,[(TSel.mk (1:Int) ([]:Bs) ([102]:Bs) ([]:Bs) (⟨false,[(TArg.mk ([120]:Bs) v)]⟩:Sl TArg) (Sl.nil:Sl TDir) true ([]))]⟩:Sl TSel)).FKind=sQueryL from rfl,hq]
 unfold Z29_q fields_checker_sels_q;rw [hk];show Option.bind (Option.bind (Z29_qn (k+1+1) _ (⟨false,[(TSel.mk (1:Int) ([]:Bs) ([102]:Bs) ([]:Bs) (⟨false,[(TArg.mk ([120]:Bs) v)]⟩:Sl TArg) (Sl.nil:Sl TDir) true ([]))]⟩:Sl TSel) _ _) _) _=_;rw [hroots,Option.bind_some];rw [show ∀c e s,Z24_q c (((!(qdef t,true).2)||(!decide ((qdef t,true).1.FKind=(1:Int))))||((decide ((TOp.mk (1:Int) ([]:Bs) (Sl.nil:Sl TVar) (⟨false,[(TSel.mk (1:Int) ([]:Bs) ([102]:Bs) ([]:Bs) (⟨false,[(TArg.mk ([120]:Bs) v)]⟩:Sl TArg) (Sl.nil:Sl TDir) true ([]))]⟩:Sl TSel)).FKind=(3:Int)))&&(!decide ((((seenM ([[102]],([]:List Bs)).1).length:Nat):Int)=(1:Int))))) e s=some c from fun _ _ _=>rfl,Option.bind_some]
 rw [fields_checker_sels_qn];rw [show (TOp.mk (1:Int) ([]:Bs) (Sl.nil:Sl TVar) (⟨false,[(TSel.mk (1:Int) ([]:Bs) ([102]:Bs) ([]:Bs) (⟨false,[(TArg.mk ([120]:Bs) v)]⟩:Sl TArg) (Sl.nil:Sl TDir) true ([]))]⟩:Sl TSel)).FSels.l=[(TSel.mk (1:Int) ([]:Bs) ([102]:Bs) ([]:Bs) (⟨false,[(TArg.mk ([120]:Bs) v)]⟩:Sl TArg) (Sl.nil:Sl TDir) true ([]))] from rfl];rw [fields_checker_sels_q3];simp only [Ab.on];show Option.bind (Option.bind (Option.bind (Option.bind (Option.bind (Z27_qn (k+1) _ _ sQueryL []) _) _) _) _) _=_
 rw [hf];rfl
end
end Go.Proofs

namespace Go.Proofs
open Go Go.Ab
theorem in_wv {x:Z6}(hs:x.sz<=1048576) (hw:x.wf):SOk x.FType.FWraps/\Wv 1048577 x.FDefault:=by
 have h:=x.sz_def;exact⟨Z6.sok hs hw,Wv.of 1048577 x.FDefault (by omega) (by omega) (Z6.FDefault_wf hw)⟩
theorem nil_wv:Wv 1048577 nilV:=Wv.of 1048577 nilV (by decide) (by decide) (by
 rw [Z9.wf_iff];refine⟨⟨by decide,by decide⟩,⟨by decide,by decide⟩,trivial,⟨fun _=>rfl,by decide,fun x h=>by cases h⟩,⟨fun _=>rfl,by decide,fun x h=>by cases h⟩,trivial⟩)
theorem insOk {d:TDoc}(hs:d.sz<=1048576) (hw:d.wf):InsOk 1048577 d:=by
 intro nm;rw [find_eq];rcases fnd_mem d.FDefs.l nm with e|e
 ·rw [e]; exact⟨fun h hh=>(by cases hh),by decide⟩
 ·have h1:=(fnd d.FDefs.l nm).1.sz_def; have h2:=d.sz_def; have h3:=Sl.mem_le (f:=TDef.sz) e;have w:=(TDoc.FDefs_wf hw).2.2 _ e;have h4:=Sl.len_lt (f:=Z6.sz) (fnd d.FDefs.l nm).1.FInputs Z6.pos;exact⟨fun x hx=>in_wv (by have:=Sl.mem_le (f:=Z6.sz) hx; omega) ((TDef.FInputs_wf w).2.2 x hx),by omega⟩
theorem insOk_more {d:TDoc}{t:TRef}{nl:Bool}(h:InsOk 1048577 d):InsOk 1048577 (more nl d t):=by
 intro nm;rw [more_find];cases (Z69_q d nm).2
 ·rw [cond_false];cases sQueryL==nm
  ·exact⟨fun h hh=>(by cases hh),Nat.le_of_ble_eq_true rfl⟩
  ·exact⟨fun h hh=>(by cases hh),Nat.le_of_ble_eq_true rfl⟩
 ·exact h nm
theorem def1_tot {d:TDoc}(hD:InsOk 1048577 d){x:Z6}(hs:x.sz<=1048576) (hw:x.wf) (a:Bs) (s:Sl Z3) (hl:s.l.length<=100000000):∃s',Z11_q x a d s=some s'/\s'.l.length<=s.l.length+1:=by
 obtain⟨h1,h2⟩:=in_wv hs hw;unfold Z11_q;cases x.FHas
 ·exact⟨s,rfl,by omega⟩
 ·obtain⟨r,e,h3⟩:=literal_tot (N:=1048576) (by decide) hD x.FType x.FDefault nilV h1 h2 nil_wv;rw [Bool.not_true,cond_false,show Z12_q d x.FType x.FDefault (Z9.mk (0:Int) (0:Int) ([]:Bs) true ([]) (Sl.nil:Sl Bs))=some (r,e) from h3,Option.bind_some];cases !decide ((r,e).2=(0:Int))
  ·exact⟨s,rfl,by omega⟩
  ·rw [cond_true,appC_ok (by decide) (by simp; omega),Option.bind_some];exact⟨_,rfl,by simp⟩
theorem q51_tot {d:TDoc}(hD:InsOk 1048577 d){t:TDef}{f:Z4}(ht:t.FName.length<=1048576) (hf:f.FName.length<=1048576):∀(l:List Z6) (s:Sl Z3),(∀x∈l,x.sz<=1048576/\x.wf)->s.l.length+l.length<=90000000->∃s',Z10_q51 d t f l s=some s'/\s'.l.length<=s.l.length+l.length
 | [],s,_,_=>⟨s,by rw [Z10_q51],by simp⟩
 | x::r,s,hx,hl=>by
  simp only [List.length_cons] at hl ⊢;obtain⟨h1,h2⟩:=hx x (.head _);have h3:=x.sz_def; have h4:Bs.sz x.FName=x.FName.length+1:=rfl;rw [Z10_q51];simp only [Ab.on];rw [catC_ok (by simp; omega),Option.bind_some,catC_ok (by simp; omega),Option.bind_some,catC_ok (by simp; omega),Option.bind_some,catC_ok (by simp; omega),Option.bind_some,catC_ok (by simp; omega),Option.bind_some];obtain⟨s1,e1,g1⟩:=def1_tot hD h1 h2 (t.FName++[46]++f.FName++[40]++x.FName++[41]) s (by omega)
  rw [e1,Option.bind_some];obtain⟨s2,e2,g2⟩:=q51_tot hD ht hf r s1 (fun y hy=>hx y (.tail _ hy)) (by omega);exact⟨s2,e2,by omega⟩
theorem q39_tot {d:TDoc}(hD:InsOk 1048577 d){t:TDef}(ht:t.FName.length<=1048576):∀(l:List Z4) (s:Sl Z3),(∀x∈l,x.sz<=1048576/\x.wf)->s.l.length+(l.map Z4.sz).sum<=90000000->∃s',Z10_q39 d t l s=some s'/\s'.l.length<=s.l.length+(l.map Z4.sz).sum
 | [],s,_,_=>⟨s,by rw [Z10_q39],by simp⟩
 | x::r,s,hx,hl=>by
  simp only [List.map_cons,List.sum_cons] at hl ⊢;obtain⟨h1,h2⟩:=hx x (.head _);have h3:=x.sz_def; have h4:Bs.sz x.FName=x.FName.length+1:=rfl;have h5:=Sl.len_lt (f:=Z6.sz) x.FArgs Z6.pos;rw [Z10_q39];simp only [Ab.on];obtain⟨s1,e1,g1⟩:=q51_tot hD (t:=t) (f:=x) ht (by omega) x.FArgs.l s (fun y hy=>⟨by have:=Sl.mem_le (f:=Z6.sz) hy; omega,(Z4.FArgs_wf h2).2.2 y hy⟩) (by omega);rw [e1,Option.bind_some]
  obtain⟨s2,e2,g2⟩:=q39_tot hD ht r s1 (fun y hy=>hx y (.tail _ hy)) (by omega);exact⟨s2,e2,by omega⟩
theorem q25_tot {d:TDoc}(hD:InsOk 1048577 d){t:TDef}(ht:t.FName.length<=1048576):∀(l:List Z6) (s:Sl Z3),(∀x∈l,x.sz<=1048576/\x.wf)->s.l.length+l.length<=90000000->∃s',Z10_q25 d t l s=some s'/\s'.l.length<=s.l.length+l.length
 | [],s,_,_=>⟨s,by rw [Z10_q25],by simp⟩
 | x::r,s,hx,hl=>by
  simp only [List.length_cons] at hl ⊢;obtain⟨h1,h2⟩:=hx x (.head _);have h3:=x.sz_def; have h4:Bs.sz x.FName=x.FName.length+1:=rfl;rw [Z10_q25];simp only [Ab.on];rw [catC_ok (by simp; omega),Option.bind_some,catC_ok (by simp; omega),Option.bind_some];obtain⟨s1,e1,g1⟩:=def1_tot hD h1 h2 (t.FName++[46]++x.FName) s (by omega);rw [e1,Option.bind_some];obtain⟨s2,e2,g2⟩:=q25_tot hD ht r s1 (fun y hy=>hx y (.tail _ hy)) (by omega)
  exact⟨s2,e2,by omega⟩
theorem q11_tot {d:TDoc}(hD:InsOk 1048577 d):∀(l:List TDef) (s:Sl Z3),(∀x∈l,x.sz<=1048576/\x.wf)->s.l.length+(l.map TDef.sz).sum<=90000000->∃s',Z10_q11 d l s=some s'
 | [],s,_,_=>⟨s,by rw [Z10_q11]⟩
 | x::r,s,hx,hl=>by
  simp only [List.map_cons,List.sum_cons] at hl;obtain⟨h1,h2⟩:=hx x (.head _);have h3:=x.sz_def; have h4:Bs.sz x.FName=x.FName.length+1:=rfl;have h5:=Sl.len_lt (f:=Z6.sz) x.FInputs Z6.pos;have h6:Sl.sz Z4.sz x.FFields=1+(x.FFields.l.map Z4.sz).sum:=rfl;rw [Z10_q11];simp only [Ab.on];obtain⟨s1,e1,g1⟩:=q39_tot hD (t:=x) (by omega) x.FFields.l s (fun y hy=>⟨by have:=Sl.mem_le (f:=Z4.sz) hy; omega,(TDef.FFields_wf h2).2.2 y hy⟩) (by omega)
  rw [e1,Option.bind_some];obtain⟨s2,e2,g2⟩:=q25_tot hD (t:=x) (by omega) x.FInputs.l s1 (fun y hy=>⟨by have:=Sl.mem_le (f:=Z6.sz) hy; omega,(TDef.FInputs_wf h2).2.2 y hy⟩) (by omega);rw [e2,Option.bind_some];exact q11_tot hD r s2 (fun y hy=>hx y (.tail _ hy)) (by omega)
theorem defaults_tot {d:TDoc}(hs:d.sz<=1048576) (hw:d.wf):∃l,Z10_q d=some l:=by
 have h:=d.sz_def;have h1:Sl.sz TDef.sz d.FDefs=1+(d.FDefs.l.map TDef.sz).sum:=rfl;obtain⟨s,e⟩:=q11_tot (insOk hs hw) d.FDefs.l Sl.nil (fun x hx=>⟨by have:=Sl.mem_le (f:=TDef.sz) hx; omega,(TDoc.FDefs_wf hw).2.2 x hx⟩) (by simp only [Sl.nil,List.length_nil]; omega);exact⟨s,by unfold Z10_q; rw [e]; rfl⟩
theorem nil_of15 {α:Type}{l:List α}(h:decide ((0:Int)<((l.length:Nat):Int))=false):l=[]:=by
 cases l with
 | nil=>rfl
 | cons a r=>simp at h
theorem right_defs {d:TDoc}(h:Z56_q d=some true):d.FDefs.l≠[]:=by
 intro e;unfold Z56_q at h;rcases condT h with ⟨_,h⟩|⟨h1,h⟩
 ·cases h
 ·rw [e] at h1; simp at h1
theorem appK_ok {α:Type}{z:Nat}{s r:Sl α}(hne:r.l≠[]) (hz:z<=1024) (h:s.l.length+r.l.length<=2097152):appK z s r=some ⟨s.nl&&r.l.isEmpty,s.l++r.l⟩:=by
 unfold appK appC;rw [if_neg (by cases hr:r.l with|nil=>exact absurd hr hne|cons a b=>simp),if_pos];have:(s.l.length+r.l.length)*z<=(s.l.length+r.l.length)*1024:=Nat.mul_le_mul_left _ hz;unfold maxN; omega
theorem appC_big {α:Type}{z:Nat}{s r:Sl α}(hz:z<=1024) (h:s.l.length+r.l.length<=2097152):appC z s r=some ⟨s.nl&&r.l.isEmpty,s.l++r.l⟩:=by
 unfold appC;rw [if_pos];have:(s.l.length+r.l.length)*z<=(s.l.length+r.l.length)*1024:=Nat.mul_le_mul_left _ hz;unfold maxN; omega
set_option maxRecDepth 100000 in
theorem knows14:Z38=some true:=by kernel_rfl
theorem fieldsLiteral_q (d:TDoc) (t:TRef) (v:Z9) (hz:d.sz<=1048576) (hw:d.wf) (htz:t.sz<=1048576) (htw:t.wf) (hvz:v.sz<=1048576) (hvw:v.wf):Z36_q d t v=some true:=by
 have hd:=defsOk hz hw;have htk:=TRef.sok htz htw;have hk:(Z38.bind fun x=>some x)=some true:=by rw [knows14]; rfl
 obtain⟨b4,e4⟩:=Z65_ok d hz;obtain⟨b5,e5⟩:=Z56_ok d hz;obtain⟨b6,e6⟩:=Z52_ok t htk.2;obtain⟨n7,e7,_⟩:=Z45_ok v hvz;obtain⟨b8,e8⟩:=Z44_ok v hvz;obtain⟨b9,e9⟩:=constant_tot F0 v (by rw [F0_eq]; omega);have e9:Z37_q v=some b9:=e9;obtain⟨l15,e15⟩:=schema_check_tot hz false;obtain⟨l17,e17⟩:=defaults_tot hz hw;unfold Z36_q;rw [e4,Option.bind_some];cases b4
 case true=>simp only [guardO,Bool.not_true,Bool.not_false,Bool.true_or,Bool.false_eq_true,if_false,cond_true]; exact hk
 simp only [guardO,Bool.not_false,Bool.false_or,if_true,e5,Option.bind_some];cases b5
 case false=>simp only [Bool.not_true,Bool.not_false,Bool.true_or,Bool.false_eq_true,if_false,cond_true]; exact hk
 simp only [Bool.not_true,Bool.not_false,Bool.false_or,if_true,e6,Option.bind_some];cases b6
 case false=>simp only [Bool.not_true,Bool.not_false,Bool.true_or,Bool.false_eq_true,if_false,cond_true]; exact hk
 simp only [Bool.not_true,Bool.not_false,Bool.false_or,if_true,e7,Option.bind_some];cases c7:decide ((100:Int)<n7)
 case true=>simp only [Bool.not_true,Bool.not_false,Bool.true_or,Bool.false_eq_true,if_false,cond_true]; exact hk
 simp only [Bool.not_true,Bool.not_false,Bool.false_or,if_true,e8,Option.bind_some];cases b8
 case false=>simp only [Bool.not_true,Bool.not_false,Bool.true_or,Bool.false_eq_true,if_false,cond_true]; exact hk
 simp only [Bool.not_true,Bool.not_false,Bool.false_or,if_true,e9,Option.bind_some];cases b9
 case false=>simp only [Bool.not_true,Bool.not_false,Bool.true_or,Bool.false_eq_true,if_false,cond_true]; exact hk
 simp only [Bool.not_true,Bool.not_false,Bool.false_or,if_true,cond_false,e15,Option.bind_some];cases c15:decide ((0:Int)<((l15.l.length:Nat):Int))
 case true=>simp only [Bool.not_true,Bool.not_false,Bool.true_or,Bool.false_eq_true,if_false,cond_true,Ab.on]; exact hk
 simp only [Bool.not_true,Bool.not_false,Bool.false_or,if_true,e17,Option.bind_some];cases c17:decide ((0:Int)<((l17.l.length:Nat):Int))
 case true=>simp only [Bool.not_true,Bool.not_false,Bool.true_or,Bool.false_eq_true,if_false,cond_true,Ab.on]; exact hk
 simp only [Bool.not_true,Bool.not_false,Bool.false_or,if_true,cond_true,Ab.on];cases hin:Z71_q d t.FName
 case false=>simp only [Bool.not_true,Bool.not_false,Bool.true_or,Bool.false_eq_true,if_false,cond_true]; exact hk
 simp only [Bool.not_true,Bool.not_false,Bool.false_or];cases c64:decide ((64:Int)<=((d.FDefs.l.length:Nat):Int))
 case true=>exact hk
 rw [cond_false];cases hq:(Z69_q d ([81,117,101,114,121]:Bs)).2
 case true=>exact hk
 rw [cond_false];have hne:=right_defs e5;have hlen:d.FDefs.l.length<=64:=by have:=of_decide_eq_false c64; omega
 rw [appK_ok hne (by decide) (by simp; omega),Option.bind_some,show Z50_q ([73,110,116]:Bs)=⟨[73,110,116],Sl.nil⟩ from rfl];rw [appC_big (by decide) (by simp; omega),Option.bind_some];generalize hnl:((((⟨false,[]⟩:Sl TDef).nl&&d.FDefs.l.isEmpty)&&_):Bool)=nl;show Option.bind (Z21_q (more nl d t) (oneQ v)) _=some true;have hdm:DefsOk (more nl d t):=more_ok hd htk;have hfit:=fits_eq hdm htk hvz;obtain⟨l35,e35,hl35⟩:=check_one (t:=t) (nl:=nl) hq v hfit
 rw [e35,Option.bind_some];obtain⟨r,e,e37⟩:=literal_tot (N:=1048576) (by decide) (insOk_more (t:=t) (nl:=nl) (insOk hz hw)) t v nilV htk (Wv.of 1048577 v (by omega) hvz hvw) nil_wv;show Option.bind (Z12_q (more nl d t) t v nilV) _=some true;rw [e37,Option.bind_some]
 -- the comparison
 have n15:=nil_of15 c15;have n17:=nil_of15 c17;have hsaid:=schema_said2 e15 n15;have hdef:=defaults_said e17 n17;have hkc:=kc_of F0 F0 v (literal_whole e8) e9;have h7:v.FKind≠7:=by obtain⟨h,_⟩:=hkc; exact h
 have hcmp:Lim e\/fitsB (more nl d t) t v=decide (e=0):=by
  unfold Z12_q at e37;rw [missing_gd (d:=more nl d t) ⟨rfl,rfl,rfl⟩,decide_eq_false h7,Option.bind_some,cond_false] at e37;obtain⟨z,ez,e37⟩:=bindO_some e37;obtain⟨y,ey,e37⟩:=bindO_some e37;have hz:e=z.2.1:=by
   cases e37;unfold Z20_q at ey;rcases condT ey with ⟨_,ey⟩|⟨h1,ey⟩
   ·cases ey; rfl
   ·obtain⟨_,_,ey⟩:=bindO_some ey;cases ey;exact(show z.2.1=0 by simpa using h1).symm
  rw [hz];exact allB (fun nm h5=>more_good hsaid hdef h5) F0 F0 F0 (Nat.le_refl _) _ t v v 1 z _ ⟨rfl,rfl,rfl⟩ (more_agree.input hin) (eqv_refl v.sz v (Nat.le_refl _) hvw) hkc ez hfit
 have hk2:∀b:Bool,b=true->(guardO b Z38 false fun x=>some (b&&x))=some true:=fun b h=>by rw [h,knows14]; rfl
 by_cases h4:e=4
 ·rw [h4]; exact hk
 by_cases h5:e=5
 ·rw [h5]; exact hk
 rcases hcmp with h|h
 ·exact absurd h (by unfold Lim; omega)
 rw [h] at hl35;rw [decide_eq_false h4,decide_eq_false h5,Bool.or_false,cond_false];by_cases h0:e=0
 ·rw [decide_eq_true h0,cond_true] at hl35;rw [decide_eq_true h0,cond_true,hl35];exact hk2 _ rfl
 ·rw [decide_eq_false h0,cond_false] at hl35;rw [decide_eq_false h0,cond_false,hl35];show (Z38.bind fun x53=>some (true&&x53))=some true;rw [knows14];rfl
end Go.Proofs

namespace Go.Proofs.YtfmbgiahleepfabGreatDoor
open Go Go.Ab Go.RowKit Go.ChangeShapes Go.WideShapes Go.ChangeAt
variable {lou:Lou}
theorem bulkAll {H:Type}(l:List (DataW H)):Rows.uptoBulkAll l=(l.map Rows.uptoBulk).sum:=by
 induction l with
 | nil=>rfl
 | cons x r ih=>simp only [Rows.uptoBulkAll,List.map_cons,List.sum_cons,ih]
theorem bulkB {H:Type}:Bulk (H:=H) Rows.uptoBulk:=by
 refine⟨fun d=>?_,fun b=>by simp [Rows.uptoBulk],fun e s=>by simp only [Rows.uptoBulk,bulkAll]; omega,fun l=>by simp only [Rows.uptoBulk,bulkAll]; omega⟩;cases d with
 | lit l=>cases l<;>simp [Rows.uptoBulk]
 | nil=>simp [Rows.uptoBulk]
 | ptr d=>simp [Rows.uptoBulk]
 | slice elems spare=>simp [Rows.uptoBulk]
 | agg parts=>simp [Rows.uptoBulk]
 | iface t d=>simp [Rows.uptoBulk]
 | map entries=>simp [Rows.uptoBulk]
 | held h=>simp [Rows.uptoBulk]
theorem own:ownKnob Tryz.prog.godebug=none:=by kernel_rfl
theorem laid:laidOutB Tryz.prog=true:=by kernel_rfl
theorem bound {H:Type}{l:List (DataW H)}(hk:Rows.uptoSmall H l=true):Rows.uptoBulkAll l<=1048576:=of_decide_eq_true hk
theorem table {W:World}(h:laidMet Tryz.prog Rows.fieldsLiteralUptoRow.laid W):∃u fr,W.heap[0]?=some (.cells (Lib.pow10Tab.map fun z=>Value.int .u64 z).toArray u fr) :=
 tab_of (P:=Tryz.prog) (name := "internal/strconv.uint64pow10") (g:=0) (t:=168) (e:=160) (n:=20) (by kernel_rfl) (by kernel_rfl) (by kernel_rfl) (by kernel_rfl) (by kernel_rfl) (by kernel_rfl) h
  (by rw [show (Lib.tabData .u64 Lib.pow10Tab:DataW Unit)=Rows.laid_internal_strconv_uint64pow10 from(by kernel_rfl)]; exact .tail _ (.tail _ (.head _)))
theorem isTab (u:TypeId) (fr:Nat×Nat):IsTab Tryz.prog (.fix 0 (.cells (Lib.pow10Tab.map fun z=>Value.int .u64 z).toArray u fr)):=.of (by kernel_rfl)
theorem fieldsLiteral_true (d:TDoc) (t:TRef) (v:Z9) (hz:d.sz<=1048576) (hw:d.wf) (htz:t.sz<=1048576) (htw:t.wf) (hvz:v.sz<=1048576) (hvw:v.wf):Z36 d t v=some true :=
 (Z36_eq d t v).trans (fieldsLiteral_q d t v hz hw htz htw hvz hvw)
theorem fieldsLiteral_call (d:TDoc) (t:TRef) (v:Z9) (hz:d.sz<=1048576) (hw:d.wf) (htz:t.sz<=1048576) (htw:t.wf) (hvz:v.sz<=1048576) (hvw:v.wf) (u:TypeId) (fr:Nat×Nat):ACalls Tryz.prog 3 [.agg d.c,.agg t.c,.agg v.c] (hTab 0 (.cells (Lib.pow10Tab.map fun z=>Value.int .u64 z).toArray u fr)) fun r h'=>r=.a (.d (.bool true))/\h'=hTab 0 (.cells (Lib.pow10Tab.map fun z=>Value.int .u64 z).toArray u fr) :=
 Z36_walk (fieldsLiteral_true d t v hz hw htz htw hvz hvw) _ (gT:=0) rfl (isTab u fr)
end Go.Proofs.YtfmbgiahleepfabGreatDoor

