import Derived.Test.YtbcphmbgonamlaaGreatDoorV7
import Derived.Test.YtbcphmbgonamlaaGreatDoorRows
set_option maxRecDepth 100000
set_option maxHeartbeats 2000000
set_option linter.unusedVariables false
set_option linter.unusedSimpArgs false
namespace Go.Proofs
open Go Go.Ab
theorem appG {s r:Sl Z3}{T:Nat}(hT:T<=1099511627776) (h:s.l.length+r.l.length<=T):∃v,appC 24 s r=some v/\v.l.length=s.l.length+r.l.length:=⟨_,appC_ok (by decide) (Nat.le_trans h hT),by simp⟩
theorem Tl.appG {s:Sl Z3}{o:Option (Sl Z3)}{b c T:Nat}{k:Sl Z3->Option (Sl Z3)}(hT:T<=1099511627776) (h:Tl o b) (hb:s.l.length+b<=T) (hk:∀r:Sl Z3,r.l.length<=s.l.length+b->Tl (k r) c):Tl (o.bind fun x=>(appC 24 s x).bind k) c:=by
 obtain⟨r,h1,h2⟩:=h;obtain⟨v,h3,h4⟩:=Go.Proofs.appG (s:=s) (r:=r) hT (by omega);rw [h1,Option.bind_some,h3,Option.bind_some];exact hk v (by omega)
theorem fieldof_in (a:TDef) (n:Bs):(Z78_q a n).1∈a.FFields.l\/((Z78_q a n).1.FArgs.l=[]/\(Z78_q a n).1.FType.FWraps.l=[]):=by
 unfold Z78_q;simp only [Ab.on];have:∀l:List Z4,(match Z78_q6 n l with|Sum.inl _=>True|Sum.inr e=>e.1∈l):=by
  intro l;induction l with
  | nil=>exact trivial
  | cons x r ih =>
   rw [Z78_q6];simp only [Ab.on];cases hq:x.FName==n
   ·simp only [cond_false]
    revert ih
    cases Z78_q6 n r with
    | inl u=>intro _; exact trivial
    | inr e=>intro ih; exact .tail _ ih
   ·exact .head _
 have h:=this a.FFields.l
 revert h
 cases Z78_q6 n a.FFields.l with
 | inl u=>intro _; exact .inr ⟨rfl,rfl⟩
 | inr e=>intro h; exact .inl h
theorem field_args {f:Z4}(h:f.sz<=1048576):(∀x∈f.FArgs.l,x.FName.length<=1048576)/\f.FName.length<=1048576/\f.FType.FWraps.l.length<=1048576:=by
 have h1:=f.sz_def;have h2:=Bs.len_le f.FName;have h3:=f.FType.sz_def;have h4:=Sl.len_le (f:=fun _:Int=>1) f.FType.FWraps (fun _=>Nat.le_refl _);refine⟨fun x hx=>?_,by omega,by omega⟩;have h5:=Sl.mem_le (f:=Z5.sz) hx;have h6:=x.sz_def;have h7:=Bs.len_le x.FName;omega
theorem f43_tl (p:Bs) (hp:p.length<=10000000) (x:Z4×Bool):∀(l:List Z5) (s:Sl Z3),(∀y∈l,y.FName.length<=1048576)->s.l.length+l.length<=1000000->Tl (Z100_q43 p x l s) (s.l.length+l.length)
 | [],s,_,_=>⟨s,rfl,by simp⟩
 | y::l,s,hy,hs=>by
  have hn:=hy y (.head _);simp only [List.length_cons] at hs ⊢;rw [Z100_q43];simp only [Ab.on];have ih:∀v:Sl Z3,v.l.length<=s.l.length+1->Tl (Z100_q43 p x l v) (s.l.length+(l.length+1)):=fun v hv=>(f43_tl p hp x l v (fun z hz=>hy z (.tail _ hz)) (by omega)).mono (by omega);have more:Tl (Option.bind ((catC p ([40]:Bs)).bind fun x59=>(catC x59 y.FName).bind fun x61=>(catC x61 ([41]:Bs)).bind fun x62=>(appC 24 s (⟨false,[(Z3.mk (22:Int) x62)]⟩:Sl Z3)).bind fun x63=>some x63) fun v=>Z100_q43 p x l v) (s.l.length+(l.length+1)):=by
   rw [catC_ok (by simp; omega),Option.bind_some,catC_ok (by simp; omega),Option.bind_some,catC_ok (by simp; omega),Option.bind_some];exact(Tl.add1 (Nat.le_refl _) (by omega)).bind fun v hv=>ih v hv
  cases (Z80_q x.1.FArgs y.FName).2
  ·simp only [guardO,Bool.not_false,Bool.not_true,Bool.true_or,cond_true];exact more
  ·obtain⟨b,hb⟩:=same11_ok (Z80_q x.1.FArgs y.FName).1.FType y.FType;simp only [guardO,Bool.not_true,Bool.not_false,if_true,cond_true,Bool.false_or,hb,Option.bind_some];cases b
   ·exact more
   ·exact ih s (by omega)
theorem f20_tl (a:Z4) (p:Bs) (hp:p.length<=10000000):∀(l:List Z5) (s:Sl Z3),(∀y∈l,y.FName.length<=1048576)->s.l.length+l.length<=1000000->Tl (Z100_q20 a p l s) (s.l.length+l.length)
 | [],s,_,_=>⟨s,rfl,by simp⟩
 | y::l,s,hy,hs=>by
  have hn:=hy y (.head _);simp only [List.length_cons] at hs ⊢;rw [Z100_q20];simp only [Ab.on];have ih:∀v:Sl Z3,v.l.length<=s.l.length+1->Tl (Z100_q20 a p l v) (s.l.length+(l.length+1)):=fun v hv=>(f20_tl a p hp l v (fun z hz=>hy z (.tail _ hz)) (by omega)).mono (by omega);have both:∀w:Bool,Tl (Option.bind (bif w then((catC p ([40]:Bs)).bind fun x59=>(catC x59 y.FName).bind fun x61=>(catC x61 ([41]:Bs)).bind fun x62=>(appC 24 s (⟨false,[(Z3.mk (22:Int) x62)]⟩:Sl Z3)).bind fun x63=>some x63) else some s) fun v=>Z100_q20 a p l v) (s.l.length+(l.length+1)):=by
   intro w;cases w
   ·exact ih s (by omega)
   ·rw [cond_true,catC_ok (by simp; omega),Option.bind_some,catC_ok (by simp; omega),Option.bind_some,catC_ok (by simp; omega),Option.bind_some];exact(Tl.add1 (Nat.le_refl _) (by omega)).bind fun v hv=>ih v hv
  exact both _
theorem field_tl {d:TDoc}(hd:d.FDefs.l.length<=1048576){a:TDef}(ha:a.sz<=1048576) (hs:Sm a){f:Z4}(hf:f.sz<=1048576) (hfa:f.FArgs.l.length<=1000):Tl (Z100_q d a f) 2001:=by
 obtain⟨g1,g2,g3⟩:=field_args hf;have h1:=a.sz_def;have h2:=Bs.len_le a.FName;have hx:(∀y∈(Z78_q a f.FName).1.FArgs.l,y.FName.length<=1048576)/\(Z78_q a f.FName).1.FArgs.l.length<=1000/\(Z78_q a f.FName).1.FType.FWraps.l.length<=1048576:=by
  rcases fieldof_in a f.FName with h|⟨h,h'⟩
  ·have h5:=Sl.mem_le (f:=Z4.sz) h;obtain⟨k1,k2,k3⟩:=field_args (f:=(Z78_q a f.FName).1) (by omega);exact⟨k1,hs.2.2.2.2 _ h,k3⟩
  ·rw [h,h']; exact⟨fun _ h=>(by cases h),by simp,by simp⟩
 unfold Z100_q;rw [catC_ok (by simp; omega),Option.bind_some,catC_ok (by simp; omega),Option.bind_some];simp only [Ab.on];cases (Z78_q a f.FName).2
 ·exact⟨_,rfl,by simp⟩
 ·obtain⟨v,hv⟩:=sub_ok hd F0 (Z78_q a f.FName).1.FType f.FType (by rw [F0_eq]; omega) hx.2.2 g3;rw [Bool.not_true,cond_false,show Z99_q d (Z78_q a f.FName).1.FType f.FType=some v from hv,Option.bind_some];have first:∀w:Bool,Tl (bif w then((appC 24 (Sl.nil:Sl Z3) (⟨false,[(Z3.mk (10:Int) (a.FName++[46]++f.FName))]⟩:Sl Z3)).bind fun x67=>some x67) else(some (Sl.nil:Sl Z3))) 1:=by
   intro w;cases w
   ·exact⟨Sl.nil,rfl,by simp [Sl.nil]⟩
   ·exact Tl.add1 (s:=Sl.nil) (b:=0) (Nat.le_refl _) (by omega)
  refine(first (!v)).bind fun r hr=>?_;refine Tl.bind (a:=1001) ((f43_tl _ (by simp; omega) _ f.FArgs.l r g1 (by omega)).mono (by omega)) fun r2 hr2=>?_;refine Tl.bind (a:=2001) ((f20_tl f _ (by simp; omega) _ r2 hx.1 (by have:=hx.2.1; omega)).mono (by have:=hx.2.1; omega)) fun r3 hr3=>?_;exact⟨r3,rfl,hr3⟩
theorem o30_tl {d:TDoc}(hd:d.FDefs.l.length<=1048576){a:TDef}(ha:a.sz<=1048576) (hs:Sm a){T:Nat}(hT:T<=1099511627776):∀(l:List Z4) (s:Sl Z3),(∀f∈l,f.sz<=1048576/\f.FArgs.l.length<=1000)->s.l.length+2001*l.length<=T->Tl (Z105_q30 d a l s) (s.l.length+2001*l.length)
 | [],s,_,_=>⟨s,rfl,by simp⟩
 | f::l,s,hf,h=>by
  simp only [List.length_cons] at h ⊢;obtain⟨f1,f2⟩:=hf f (.head _);rw [Z105_q30];simp only [Ab.on];refine Tl.appG hT (field_tl hd ha hs f1 f2) (Nat.le_trans (Nat.add_le_add_left (Nat.le_mul_of_pos_right 2001 (Nat.succ_pos l.length)) s.l.length) h) fun r hr=>?_;exact(o30_tl hd ha hs hT l r (fun z hz=>hf z (.tail _ hz)) (by omega)).mono (by omega)
def AllSm (d:TDoc):Prop:=∀x∈d.FDefs.l,x.sz<=1048576/\Sm x
theorem found_sm {d:TDoc}(h:AllSm d) (n:Bs):(∀f∈(Z79_q d n).1.FFields.l,f.sz<=1048576/\f.FArgs.l.length<=1000)/\(Z79_q d n).1.FFields.l.length<=1000:=by
 have key:(Z79_q d n).1∈d.FDefs.l\/(Z79_q d n).1.FFields.l=[]:=by
  unfold Z79_q;simp only [Ab.on];have:∀l:List TDef,(match Z79_q6 n l with|Sum.inl _=>True|Sum.inr e=>e.1∈l):=by
   intro l;induction l with
   | nil=>exact trivial
   | cons a r ih =>
    rw [Z79_q6];simp only [Ab.on];cases hq:a.FName==n
    ·simp only [cond_false]
     revert ih
     cases Z79_q6 n r with
     | inl u=>intro _; exact trivial
     | inr e=>intro ih; exact .tail _ ih
    ·exact .head _
  have h:=this d.FDefs.l
  revert h
  cases Z79_q6 n d.FDefs.l with
  | inl u=>intro _; exact .inr rfl
  | inr e=>intro h; exact .inl h
 rcases key with hk|hk
 ·obtain⟨h1,h2⟩:=h _ hk;refine⟨fun f hf=>⟨?_,h2.2.2.2.2 f hf⟩,h2.1⟩;have h3:=Sl.mem_le (f:=Z4.sz) hf;have h4:=(Z79_q d n).1.sz_def;omega
 ·rw [hk]; exact⟨fun _ h=>(by cases h),by simp⟩
theorem obj_tl {d:TDoc}(hd:d.FDefs.l.length<=1048576) (hA:AllSm d){a:TDef}(ha:a.sz<=1048576) (hs:Sm a){T:Nat}(hT:T<=1099511627776):∀(l:List Bs) (i:Nat) (s:Sl Z3),s.l.length+2001000*l.length<=T->Tl (Z105_q7 d a l i s) (s.l.length+2001000*l.length)
 | [],i,s,_=>⟨s,rfl,by simp⟩
 | n::l,i,s,h=>by
  simp only [List.length_cons] at h ⊢;rw [Z105_q7];simp only [Ab.on];have ih:∀v:Sl Z3,v.l.length<=s.l.length+2001000->Tl (Z105_q7 d a l (i+1) v) (s.l.length+2001000*(l.length+1)):=fun v hv=>(obj_tl hd hA ha hs hT l (i+1) v (by omega)).mono (by omega);obtain⟨k1,k2⟩:=found_sm hA n;have both:∀(w:Bool) (e:Int),Tl (Option.bind (bif w then((appC 24 s (⟨false,[(Z3.mk e a.FName)]⟩:Sl Z3)).bind fun x25=>some x25) else(Option.bind (Z105_q30 d a (Z79_q d n).1.FFields.l s) fun s5_31=>some s5_31)) fun v=>Z105_q7 d a l (i+1) v) (s.l.length+2001000*(l.length+1)):=by
   intro w e;cases w
   ·obtain⟨r,r1,r2⟩:=o30_tl hd ha hs hT _ s k1 (by omega);rw [cond_false,r1];exact ih r (by omega)
   ·obtain⟨v,v1,v2⟩:=appG (s:=s) (r:=⟨false,[Z3.mk e a.FName]⟩) hT (by simp; omega);rw [cond_true,v1];exact ih v (by rw [v2]; simp)
  exact both _ _
theorem uni_tl {d:TDoc}{a:TDef}(ha:a.FName.length<=1048576){T:Nat}(hT:T<=1099511627776):∀(l:List Z6) (i:Nat) (s:Sl Z3),(∀m∈l,m.FName.length<=1048576)->s.l.length+l.length<=T->Tl (Z106_q7 d a l i s) (s.l.length+l.length)
 | [],i,s,_,_=>⟨s,rfl,by simp⟩
 | m::l,i,s,hm,h=>by
  have hn:=hm m (.head _);simp only [List.length_cons] at h ⊢;rw [Z106_q7];simp only [Ab.on];have ih:∀v:Sl Z3,v.l.length<=s.l.length+1->Tl (Z106_q7 d a l (i+1) v) (s.l.length+(l.length+1)):=fun v hv=>(uni_tl ha hT l (i+1) v (fun z hz=>hm z (.tail _ hz)) (by omega)).mono (by omega);have both:∀(w:Bool) (e:Int),Tl (Option.bind (bif w then((catC a.FName ([46]:Bs)).bind fun x24=>(catC x24 m.FName).bind fun x25=>(appC 24 s (⟨false,[(Z3.mk e x25)]⟩:Sl Z3)).bind fun x26=>some x26) else(some s)) fun v=>Z106_q7 d a l (i+1) v) (s.l.length+(l.length+1)):=by
   intro w e;cases w
   ·exact ih s (by omega)
   ·rw [cond_true,catC_ok (by simp; omega),Option.bind_some,catC_ok (by simp; omega),Option.bind_some];obtain⟨v,v1,v2⟩:=appG (s:=s) (r:=⟨false,[Z3.mk e (a.FName++[46]++m.FName)]⟩) hT (by simp; omega);rw [v1];exact ih v (by rw [v2]; simp)
  exact both _ _
end Go.Proofs

namespace Go.Proofs
open Go Go.Ab
theorem object_tl {d:TDoc}(hd:d.FDefs.l.length<=1048576) (hA:AllSm d){a:TDef}(ha:a.sz<=1048576) (hs:Sm a) (h6:a.FImplements.l.length<=600):Tl (Z105_q d a) 1200600000:=by
 unfold Z105_q;have h1:2001000*a.FImplements.l.length<=2001000*600:=Nat.mul_le_mul_left _ h6;obtain⟨r,e1,e2⟩:=obj_tl hd hA ha hs (T:=1099511627776) (Nat.le_refl _) a.FImplements.l 0 Sl.nil (by
  show 0+2001000*a.FImplements.l.length<=_;rw [Nat.zero_add];exact Nat.le_trans h1 (by decide))
 rw [e1];refine⟨r,rfl, ?_⟩;rw [show (Sl.nil:Sl Z3).l.length=0 from rfl,Nat.zero_add] at e2;exact Nat.le_trans e2 h1
theorem union_tl {d:TDoc}{a:TDef}(ha:a.sz<=1048576) (hs:Sm a):Tl (Z106_q d a) 1200600000:=by
 unfold Z106_q;have h1:=a.sz_def;have h2:=Bs.len_le a.FName;have h3:=hs.2.1;obtain⟨r,e1,e2⟩:=uni_tl (d:=d) (a:=a) (by omega) (T:=1000) (by decide) a.FMembers.l 0 Sl.nil (fun m hm=>by
  have h5:=Sl.mem_le (f:=Z6.sz) hm;have h6:=m.sz_def;have h7:=Bs.len_le m.FName;omega) (by simp only [Sl.nil,List.length_nil]; omega)
 rw [e1];refine⟨r,rfl, ?_⟩;simp only [Sl.nil,List.length_nil] at e2;omega
theorem faces_loop {d:TDoc}{C T:Nat}(hT:T<=1099511627776):∀(l:List TDef) (s:Sl Z3),(∀a∈l,Tl (Z105_q d a) C/\Tl (Z106_q d a) C)->s.l.length+C*l.length<=T->Tl (Z96_q7 d l s) (s.l.length+C*l.length)
 | [],s,_,_=>⟨s,rfl,by simp⟩
 | a::l,s,hC,h=>by
  obtain⟨c1,c2⟩:=hC a (.head _);rw [List.length_cons,Nat.mul_succ] at h;rw [List.length_cons,Nat.mul_succ];rw [Z96_q7];simp only [Ab.on];have hs:s.l.length+C<=T:=Nat.le_trans (by generalize C*l.length=m; omega) h;have ih:∀v:Sl Z3,v.l.length<=s.l.length+C->Tl (Z96_q7 d l v) (s.l.length+(C*l.length+C)):=fun v hv=>by
   refine(faces_loop hT l v (fun z hz=>hC z (.tail _ hz)) ?_).mono ?_
   ·clear hT; revert h; generalize C*l.length=m; intro h; omega
   ·clear hT; revert h; generalize C*l.length=m; intro h; omega
  have both:∀{o:Option (Sl Z3)},Tl o C->Tl (Option.bind (o.bind fun x21=>(appC 24 s x21).bind fun x22=>some x22) fun v=>Z96_q7 d l v) (s.l.length+(C*l.length+C)):=by
   intro o ho;refine Tl.bind (a:=s.l.length+C) (Tl.appG hT ho hs fun r hr=>⟨r,rfl,hr⟩) fun v hv=>ih v hv
  cases decide (a.FKind=1)
  ·cases decide (a.FKind=3)
   ·exact ih s (by omega)
   ·exact both c2
  ·exact both c1
theorem faces_tl {d:TDoc}(hd:d.sz<=1048576) (h:d.FDefs.l.length<=600/\∀x∈d.FDefs.l,Sm x/\x.FImplements.l.length<=600):∃r,Z96_q d=some r/\r.l.length<=1000000000000:=by
 have hA:AllSm d:=fun x hx=>by
  have h1:=d.sz_def;have h5:=Sl.mem_le (f:=TDef.sz) hx;exact⟨by omega,(h.2 x hx).1⟩
 have h70:1200600000*d.FDefs.l.length<=1200600000*600:=Nat.mul_le_mul_left _ h.1;obtain⟨r,e,hl⟩:=faces_loop (d:=d) (C:=1200600000) (T:=1099511627776) (Nat.le_refl _) d.FDefs.l Sl.nil (fun a ha=>⟨object_tl (by omega) hA (hA a ha).1 (hA a ha).2 (h.2 a ha).2,union_tl (hA a ha).1 (hA a ha).2⟩) (by
  show 0+1200600000*d.FDefs.l.length<=_;rw [Nat.zero_add];exact Nat.le_trans h70 (by decide))
 unfold Z96_q;rw [e];refine⟨r,rfl, ?_⟩;rw [show (Sl.nil:Sl Z3).l.length=0 from rfl,Nat.zero_add] at hl;exact Nat.le_trans hl (Nat.le_trans h70 (by decide))
end Go.Proofs

namespace Go.Proofs
open Go Go.Ab
theorem Z60_loop (a:TRef) (ha:a.FWraps.l.length<=1048576) (l:List Int) (i:Nat) (h:i+l.length=a.FWraps.l.length):Ok (Z60_q10 a l i):=by
 induction l generalizing i with
 | nil=>exact Tot.some _
 | cons x r ih =>
  simp only [List.length_cons] at h;have hr:=ih (i+1) (by omega);rw [Z60_q10];simp only [on];refine Tot.cond (fun _=>Tot.some _) fun _=>?_;by_cases hi:0<i
  ·have h1:decide ((0:Int)<((i:Nat):Int))=true:=by simpa using hi
   obtain⟨v,hv⟩:=idxC_ok (l:=a.FWraps.l) (n:=(i:Int)-1) (by omega);simp only [h1,cond_true,Bool.true_and,subC_ok (a:=(i:Int)) (b:=1) (by omega)];cases decide (x=1)<;>simp only [guardO,hv,if_true,Option.bind_some,Bool.false_eq_true,if_false,Bool.false_and,cond_false]
   ·exact hr
   ·(repeat' (first|exact Tot.some _|assumption|(with_reducible refine Tot.bind ?_ fun _ _=>?_)|(with_reducible refine Tot.guard (fun _=>?_) fun _ _ _=>?_)|(with_reducible refine Tot.cond (fun _=>?_) fun _=>?_)|(with_reducible refine Tot.on fun _ _=>?_)|split))
  ·have h1:decide ((0:Int)<((i:Nat):Int))=false:=by simpa using hi
   simp only [h1,Bool.false_and,guardO,Bool.false_eq_true,if_false,cond_false];exact hr
theorem Z60_ok (a:TRef) (ha:a.FWraps.l.length<=1048576):Ok (Z60_q a):=by
 unfold Z60_q
 (repeat' (first|exact Tot.some _|assumption|(with_reducible refine Tot.bind ?_ fun _ _=>?_)|(with_reducible refine Tot.guard (fun _=>?_) fun _ _ _=>?_)|(with_reducible refine Tot.cond (fun _=>?_) fun _=>?_)|(with_reducible refine Tot.on fun _ _=>?_)|split))
 exact Z60_loop a ha _ _ (by simp)
theorem Z47_loop (k:Z7->Option Int) (l:List Z7) (s:Int) (hk:∀x∈l,∃r,k x=some r/\1<=r/\r<=x.sz) (hs:0<=s) (hb:s+((l.map Z7.sz).sum:Nat)<=1152921504606846976):∃r,Z47_q7 k l s=some r/\s<=r/\r<=s+((l.map Z7.sz).sum:Nat):=by
 induction l generalizing s with
 | nil=>exact⟨s,rfl,by simp,by simp⟩
 | cons x r ih =>
  obtain⟨v,h1,h2,h3⟩:=hk x List.mem_cons_self;simp only [List.map_cons,List.sum_cons] at hb ⊢;rw [Z47_q7];simp only [on,h1,Option.bind_some];rw [addC_ok (by omega)];simp only [Option.bind_some];obtain⟨w,h4,h5,h6⟩:=ih (s+v) (fun y hy=>hk y (List.mem_cons_of_mem _ hy)) (by omega) (by omega);exact⟨w,h4,by omega,by omega⟩
theorem Z7.item_lt {v x:Z7}(h:x∈v.FItems.l):x.sz<v.sz:=by
 have h1:=v.sz_def; have h2:=Sl.mem_le (f:=Z7.sz) h; omega
theorem Z7.items_sum (v:Z7):2+(v.FItems.l.map Z7.sz).sum<=v.sz:=by
 have h1:=v.sz_def; have h2:Sl.sz Z7.sz v.FItems=1+(v.FItems.l.map Z7.sz).sum:=rfl; omega
theorem Z47_tot (n:Nat):∀v:Z7,v.sz<n->v.sz<=1073741824->∃r,Z47_qn n v=some r/\1<=r/\r<=v.sz:=by
 induction n with
 | zero=>intro v h; omega
 | succ n ih =>
  intro v h hb;have h0:=v.items_sum;obtain⟨w,h4,h5,h6⟩:=Z47_loop (Z47_qn n) v.FItems.l 1 (fun x hx=>by have:=Z7.item_lt hx; exact ih x (by omega) (by omega)) (by omega) (by omega);rw [Z47_qn,h4];exact⟨w,rfl,by omega,by omega⟩
theorem Z47_ok (v:Z7) (h:v.sz<=1048576):∃r,Z47_q v=some r/\1<=r/\r<=v.sz:=Z47_tot F0 v (by rw [F0_eq]; omega) (by omega)
theorem Z44_loop (k:Z7->Option Int) (l:List Z7) (s b:Int) (hk:∀x∈l,∃r,k x=some r/\1<=r/\r<=b) (hs:0<=s/\s<=b):∃r,Z44_q8 k l s=some r/\0<=r/\r<=b:=by
 induction l generalizing s with
 | nil=>exact⟨s,rfl,by omega,by omega⟩
 | cons x r ih =>
  obtain⟨v,h1,h2,h3⟩:=hk x List.mem_cons_self;rw [Z44_q8];simp only [on,h1,Option.bind_some];exact ih _ (fun y hy=>hk y (List.mem_cons_of_mem _ hy)) (by split<;>omega)
theorem Z44_tot (n:Nat):∀v:Z7,v.sz<n->v.sz<=1073741824->∃r,Z44_qn n v=some r/\1<=r/\r<=v.sz:=by
 induction n with
 | zero=>intro v h; omega
 | succ n ih =>
  intro v h hb;have h0:=v.items_sum;obtain⟨w,h4,h5,h6⟩:=Z44_loop (Z44_qn n) v.FItems.l 0 (v.sz-1:Nat) (fun x hx=>by have:=Z7.item_lt hx; obtain⟨r,h7,h8,h9⟩:=ih x (by omega) (by omega); exact⟨r,h7,h8,by omega⟩) (by omega);rw [Z44_qn,h4];simp only [on,Option.bind_some];rw [addC_ok (by omega)];exact⟨w+1,rfl,by omega,by omega⟩
theorem Z44_ok (v:Z7) (h:v.sz<=1048576):Ok (Z44_q v):=by
 obtain⟨r,hr,_⟩:=Z44_tot F0 v (by rw [F0_eq]; omega) (by omega); exact⟨r,hr⟩
theorem Z52_in (a:Sl Bs) (x:Bs) (m i:Nat) (h:i+m<=a.l.length):Ok (Z52_q13 a x m i):=by
 induction m generalizing i with
 | zero=>exact Tot.some _
 | succ m ih =>
  rw [Z52_q13]
  (repeat' (first|exact Tot.some _|assumption|(with_reducible refine Tot.bind ?_ fun _ _=>?_)|(with_reducible refine Tot.guard (fun _=>?_) fun _ _ _=>?_)|(with_reducible refine Tot.cond (fun _=>?_) fun _=>?_)|(with_reducible refine Tot.on fun _ _=>?_)|split))
  ·exact get_ok (by omega)
  ·exact ih _ (by omega)
theorem Z52_out (a:Sl Bs) (l:List Bs) (i:Nat) (h:i+l.length=a.l.length):Ok (Z52_q5 a l i):=by
 induction l generalizing i with
 | nil=>exact Tot.some _
 | cons x r ih =>
  simp only [List.length_cons] at h;rw [Z52_q5]
  (repeat' (first|exact Tot.some _|assumption|(with_reducible refine Tot.bind ?_ fun _ _=>?_)|(with_reducible refine Tot.guard (fun _=>?_) fun _ _ _=>?_)|(with_reducible refine Tot.cond (fun _=>?_) fun _=>?_)|(with_reducible refine Tot.on fun _ _=>?_)|split))
  ·exact Z52_in a x _ _ (by omega)
  ·exact ih _ (by omega)
theorem Z52_ok (a:Sl Bs):Ok (Z52_q a):=by
 unfold Z52_q
 (repeat' (first|exact Tot.some _|assumption|(with_reducible refine Tot.bind ?_ fun _ _=>?_)|(with_reducible refine Tot.guard (fun _=>?_) fun _ _ _=>?_)|(with_reducible refine Tot.cond (fun _=>?_) fun _=>?_)|(with_reducible refine Tot.on fun _ _=>?_)|split))
 exact Z52_out a _ _ (by simp)
theorem Z50_ok (v:Z7) (b:Bool):Ok (Z50_q v b):=by
 unfold Z50_q
 (repeat' (first|exact Tot.some _|assumption|(with_reducible refine Tot.bind ?_ fun _ _=>?_)|(with_reducible refine Tot.guard (fun _=>?_) fun _ _ _=>?_)|(with_reducible refine Tot.cond (fun _=>?_) fun _=>?_)|(with_reducible refine Tot.on fun _ _=>?_)|split))
 exact Z52_ok _
theorem Z53_loop (b:Bool) (k:Z7->Bool->Option Bool) (l:List Z7) (hk:∀x∈l,Ok (k x b)):Ok (Z53_q11 b k l):=by
 induction l with
 | nil=>exact Tot.some _
 | cons x r ih =>
  rw [Z53_q11]
  (repeat' (first|exact Tot.some _|assumption|(with_reducible refine Tot.bind ?_ fun _ _=>?_)|(with_reducible refine Tot.guard (fun _=>?_) fun _ _ _=>?_)|(with_reducible refine Tot.cond (fun _=>?_) fun _=>?_)|(with_reducible refine Tot.on fun _ _=>?_)|split))
  ·rename_i h; rw [h]; exact hk x List.mem_cons_self
  ·exact ih fun y hy=>hk y (List.mem_cons_of_mem _ hy)
theorem Z53_tot (n:Nat):∀(v:Z7) (b:Bool),v.sz<n->Ok (Z53_qn n v b):=by
 induction n with
 | zero=>intro v b h; omega
 | succ n ih =>
  intro v b h;rw [Z53_qn]
  (repeat' (first|exact Tot.some _|assumption|(with_reducible refine Tot.bind ?_ fun _ _=>?_)|(with_reducible refine Tot.guard (fun _=>?_) fun _ _ _=>?_)|(with_reducible refine Tot.cond (fun _=>?_) fun _=>?_)|(with_reducible refine Tot.on fun _ _=>?_)|split))
  ·exact Z50_ok _ _
  ·exact Z53_loop b _ _ fun x hx=>ih x b (by have:=Z7.item_lt hx; omega)
theorem Z45_ok (v:Z7) (h:v.sz<=1048576):Ok (Z45_q v):=by
 unfold Z45_q;obtain⟨r,hr,_⟩:=Z47_ok v h
 (repeat' (first|exact Tot.some _|assumption|(with_reducible refine Tot.bind ?_ fun _ _=>?_)|(with_reducible refine Tot.guard (fun _=>?_) fun _ _ _=>?_)|(with_reducible refine Tot.cond (fun _=>?_) fun _=>?_)|(with_reducible refine Tot.on fun _ _=>?_)|split))
 ·exact⟨r,hr⟩
 ·exact Z44_ok v h
 ·exact Z53_tot F0 v true (by rw [F0_eq]; omega)
theorem Z66_loop (k:Z7->Option Bool) (l:List Z7) (hk:∀x∈l,Ok (k x)):Ok (Z66_q5 k l):=by
 induction l with
 | nil=>exact Tot.some _
 | cons x r ih =>
  rw [Z66_q5]
  (repeat' (first|exact Tot.some _|assumption|(with_reducible refine Tot.bind ?_ fun _ _=>?_)|(with_reducible refine Tot.guard (fun _=>?_) fun _ _ _=>?_)|(with_reducible refine Tot.cond (fun _=>?_) fun _=>?_)|(with_reducible refine Tot.on fun _ _=>?_)|split))
  ·rename_i h; rw [h]; exact hk x List.mem_cons_self
  ·exact ih fun y hy=>hk y (List.mem_cons_of_mem _ hy)
theorem Z66_tot (n:Nat):∀(v:Z7),v.sz<n->Ok (Z66_qn n v):=by
 induction n with
 | zero=>intro v h; omega
 | succ n ih =>
  intro v h;rw [Z66_qn]
  (repeat' (first|exact Tot.some _|assumption|(with_reducible refine Tot.bind ?_ fun _ _=>?_)|(with_reducible refine Tot.guard (fun _=>?_) fun _ _ _=>?_)|(with_reducible refine Tot.cond (fun _=>?_) fun _=>?_)|(with_reducible refine Tot.on fun _ _=>?_)|split))
  exact Z66_loop _ _ fun x hx=>ih x (by have:=Z7.item_lt hx; omega)
theorem Z66_ok (v:Z7) (h:v.sz<=1048576):Ok (Z66_q v):=Z66_tot F0 v (by rw [F0_eq]; omega)
theorem TArg.value_le (a:TArg):a.FValue.sz<=a.sz:=by have:=a.sz_def; omega
theorem TDir.arg_le {x:TDir}{a:TArg}(h:a∈x.FArgs.l):a.sz<=x.sz:=by have:=x.sz_def; have:=Sl.mem_le (f:=TArg.sz) h; omega
theorem Z68_in (h10:TDir) (l:List TArg) (h:∀a∈l,a.sz<=1048576):Ok (Z68_q25 h10 l):=by
 induction l with
 | nil=>exact Tot.some _
 | cons x r ih =>
  have h1:=h x List.mem_cons_self; have h2:=x.value_le;rw [Z68_q25]
  (repeat' (first|exact Tot.some _|assumption|(with_reducible refine Tot.bind ?_ fun _ _=>?_)|(with_reducible refine Tot.guard (fun _=>?_) fun _ _ _=>?_)|(with_reducible refine Tot.cond (fun _=>?_) fun _=>?_)|(with_reducible refine Tot.on fun _ _=>?_)|split))
  all_goals first|exact ih fun y hy=>h y (List.mem_cons_of_mem _ hy)|(subst_vars; first|exact Z45_ok _ (by omega)|exact Z66_ok _ (by omega))
theorem Z68_loop (l:List TDir) (h:∀a∈l,a.sz<=1048576):Ok (Z68_q10 l):=by
 induction l with
 | nil=>exact Tot.some _
 | cons x r ih =>
  have h1:=h x List.mem_cons_self;rw [Z68_q10]
  (repeat' (first|exact Tot.some _|assumption|(with_reducible refine Tot.bind ?_ fun _ _=>?_)|(with_reducible refine Tot.guard (fun _=>?_) fun _ _ _=>?_)|(with_reducible refine Tot.cond (fun _=>?_) fun _=>?_)|(with_reducible refine Tot.on fun _ _=>?_)|split))
  ·exact Z68_in x _ fun a ha=>by have:=TDir.arg_le ha; omega
  ·exact ih fun y hy=>h y (List.mem_cons_of_mem _ hy)
theorem Z68_ok (s:Sl TDir) (h:Sl.sz TDir.sz s<=1048576):Ok (Z68_q s):=by
 unfold Z68_q
 (repeat' (first|exact Tot.some _|assumption|(with_reducible refine Tot.bind ?_ fun _ _=>?_)|(with_reducible refine Tot.guard (fun _=>?_) fun _ _ _=>?_)|(with_reducible refine Tot.cond (fun _=>?_) fun _=>?_)|(with_reducible refine Tot.on fun _ _=>?_)|split))
 exact Z68_loop _ fun a ha=>by have:=Sl.mem_le (f:=TDir.sz) ha; omega
theorem TRef.wraps_le (r:TRef):r.FWraps.l.length<=r.sz:=by have:=r.sz_def; have:=Sl.len_le (f:=fun _:Int=>1) r.FWraps (fun _=>Nat.le_refl _); omega
theorem Z70_loop (l:List Z5) (h:∀a∈l,a.sz<=1048576):Ok (Z70_q10 l):=by
 induction l with
 | nil=>exact Tot.some _
 | cons x r ih =>
  have h1:=h x List.mem_cons_self; have h2:=x.sz_def; have h3:=x.FType.wraps_le;rw [Z70_q10]
  (repeat' (first|exact Tot.some _|assumption|(with_reducible refine Tot.bind ?_ fun _ _=>?_)|(with_reducible refine Tot.guard (fun _=>?_) fun _ _ _=>?_)|(with_reducible refine Tot.cond (fun _=>?_) fun _=>?_)|(with_reducible refine Tot.on fun _ _=>?_)|split))
  all_goals first|exact ih fun y hy=>h y (List.mem_cons_of_mem _ hy)|(subst_vars; first|exact Z60_ok _ (by omega)|exact Z68_ok _ (by omega)|exact Z45_ok _ (by omega)|exact Z66_ok _ (by omega))
theorem Z70_ok (s:Sl Z5) (h:Sl.sz Z5.sz s<=1048576):Ok (Z70_q s):=by
 unfold Z70_q
 (repeat' (first|exact Tot.some _|assumption|(with_reducible refine Tot.bind ?_ fun _ _=>?_)|(with_reducible refine Tot.guard (fun _=>?_) fun _ _ _=>?_)|(with_reducible refine Tot.cond (fun _=>?_) fun _=>?_)|(with_reducible refine Tot.on fun _ _=>?_)|split))
 exact Z70_loop _ fun a ha=>by have:=Sl.mem_le (f:=Z5.sz) ha; omega
theorem Z69_loop (l:List Z4) (h:∀a∈l,a.sz<=1048576):Ok (Z69_q10 l):=by
 induction l with
 | nil=>exact Tot.some _
 | cons x r ih =>
  have h1:=h x List.mem_cons_self; have h2:=x.sz_def; have h3:=x.FType.wraps_le;have hz:Z4.zero.FType.FWraps.l.length<=1048576:=by decide
  rw [Z69_q10];simp only [on];cases Z35_q x.FName<;>simp only [Bool.not_true,Bool.not_false,cond_true,cond_false,Bool.or_false,Bool.or_true,Bool.true_or,Bool.false_or]
  ·simp [guardO]; exact Tot.some _
  ·obtain⟨b1,e1⟩:=Z70_ok x.FArgs (by omega);obtain⟨b2,e2⟩:=Z60_ok x.FType (by omega);obtain⟨b3,e3⟩:=Z68_ok x.FDirs (by omega);have hr:=ih fun y hy=>h y (List.mem_cons_of_mem _ hy);cases b1<;>cases b2<;>cases b3<;>simp [guardO,e1,e2,e3]<;>first|exact Tot.some _|exact hr
theorem Z69_ok (s:Sl Z4) (h:Sl.sz Z4.sz s<=1048576):Ok (Z69_q s):=by
 unfold Z69_q
 (repeat' (first|exact Tot.some _|assumption|(with_reducible refine Tot.bind ?_ fun _ _=>?_)|(with_reducible refine Tot.guard (fun _=>?_) fun _ _ _=>?_)|(with_reducible refine Tot.cond (fun _=>?_) fun _=>?_)|(with_reducible refine Tot.on fun _ _=>?_)|split))
 exact Z69_loop _ fun a ha=>by have:=Sl.mem_le (f:=Z4.sz) ha; omega
theorem Z71_loop (b:Bool) (l:List Z6) (h:∀a∈l,a.sz<=1048576):Ok (Z71_q10 b l):=by
 induction l with
 | nil=>exact Tot.some _
 | cons x r ih =>
  have h1:=h x List.mem_cons_self; have h2:=x.sz_def;rw [Z71_q10];simp only [on];cases Z35_q x.FName<;>simp only [Bool.not_true,Bool.not_false,cond_true,cond_false,Bool.or_false,Bool.or_true,Bool.true_or,Bool.false_or]
  ·simp [guardO]; exact Tot.some _
  ·obtain⟨b3,e3⟩:=Z68_ok x.FDirs (by omega);have hr:=ih fun y hy=>h y (List.mem_cons_of_mem _ hy);simp only [guardO,e3,if_true,Option.bind_some]
   (repeat' (first|exact Tot.some _|assumption|(with_reducible refine Tot.bind ?_ fun _ _=>?_)|(with_reducible refine Tot.guard (fun _=>?_) fun _ _ _=>?_)|(with_reducible refine Tot.cond (fun _=>?_) fun _=>?_)|(with_reducible refine Tot.on fun _ _=>?_)|split))
theorem Z71_ok (s:Sl Z6) (b:Bool) (h:Sl.sz Z6.sz s<=1048576):Ok (Z71_q s b):=by
 unfold Z71_q
 (repeat' (first|exact Tot.some _|assumption|(with_reducible refine Tot.bind ?_ fun _ _=>?_)|(with_reducible refine Tot.guard (fun _=>?_) fun _ _ _=>?_)|(with_reducible refine Tot.cond (fun _=>?_) fun _=>?_)|(with_reducible refine Tot.on fun _ _=>?_)|split))
 exact Z71_loop _ _ fun a ha=>by have:=Sl.mem_le (f:=Z6.sz) ha; omega
theorem Z67_ok (x:TDef) (h:x.sz<=1048576):Ok (Z67_q x):=by
 have h2:=x.sz_def;unfold Z67_q
 (repeat' (first|exact Tot.some _|assumption|(with_reducible refine Tot.bind ?_ fun _ _=>?_)|(with_reducible refine Tot.guard (fun _=>?_) fun _ _ _=>?_)|(with_reducible refine Tot.cond (fun _=>?_) fun _=>?_)|(with_reducible refine Tot.on fun _ _=>?_)|split))
 all_goals first|exact Z68_ok _ (by omega)|exact Z69_ok _ (by omega)|exact Z71_ok _ _ (by omega)|exact Z70_ok _ (by omega)
theorem Z64_loop (l:List TDef) (h:∀a∈l,a.sz<=1048576):Ok (Z64_q10 l):=by
 induction l with
 | nil=>exact Tot.some _
 | cons x r ih =>
  rw [Z64_q10]
  (repeat' (first|exact Tot.some _|assumption|(with_reducible refine Tot.bind ?_ fun _ _=>?_)|(with_reducible refine Tot.guard (fun _=>?_) fun _ _ _=>?_)|(with_reducible refine Tot.cond (fun _=>?_) fun _=>?_)|(with_reducible refine Tot.on fun _ _=>?_)|split))
  ·subst_vars; exact Z67_ok _ (h _ List.mem_cons_self)
  ·exact ih fun y hy=>h y (List.mem_cons_of_mem _ hy)
theorem TDoc.def_le {d:TDoc}{x:TDef}(h:x∈d.FDefs.l):x.sz<=d.sz:=by have:=d.sz_def; have:=Sl.mem_le (f:=TDef.sz) h; omega
theorem Z64_ok (d:TDoc) (h:d.sz<=1048576):Ok (Z64_q d):=by
 unfold Z64_q
 (repeat' (first|exact Tot.some _|assumption|(with_reducible refine Tot.bind ?_ fun _ _=>?_)|(with_reducible refine Tot.guard (fun _=>?_) fun _ _ _=>?_)|(with_reducible refine Tot.cond (fun _=>?_) fun _=>?_)|(with_reducible refine Tot.on fun _ _=>?_)|split))
 exact Z64_loop _ fun a ha=>by have:=TDoc.def_le ha; omega
end Go.Proofs

namespace Go.Proofs
open Go Go.Ab
def Gr (o:Option Int) (s:Int) (b:Nat):Prop:=∃r,o=some r/\s<=r/\r<=s+b
theorem Gr.refl (s:Int) (b:Nat):Gr (some s) s b:=⟨s,rfl,by omega,by omega⟩
theorem Gr.bind {o:Option Int}{k:Int->Option Int}{s:Int}{a b c:Nat}(h:Gr o s a) (hc:a+b<=c) (hk:∀r,s<=r->r<=s+a->Gr (k r) r b):Gr (o.bind k) s c:=by
 obtain⟨r,e,h1,h2⟩:=h;obtain⟨r2,e2,h3,h4⟩:=hk r h1 h2;exact⟨r2,by rw [e]; exact e2,by omega,by omega⟩
theorem Gr.add {x s:Int}{b:Nat}(hx:0<=x/\x<=b) (hs:0<=s/\s+b<=1099511627776):Gr (addC s x) s b:=⟨s+x,addC_ok (by omega),by omega,by omega⟩
theorem keys_w (a1:Int):∀(l:List Bs) (s:Int),0<=s->s+(l.map Bs.sz).sum<=1073741824->Gr (Z54_q23 a1 l s) s (l.map Bs.sz).sum
 | [],s,_,_=>Gr.refl _ _
 | a::r,s,h0,h=>by
  simp only [List.map_cons,List.sum_cons] at h ⊢;rw [Z54_q23];cases decide (s<=a1) with
  | false=>exact Gr.refl _ _
  | true =>
   simp only [cond_true,Ab.on];have hb:Bs.sz a=a.length+1:=rfl;refine Gr.bind (a:=1) (b:=a.length+(r.map Bs.sz).sum) (Gr.add (by omega) (by omega)) (by omega) fun x h1 h2=>?_;refine Gr.bind (a:=a.length) (b:=(r.map Bs.sz).sum) (Gr.add (by omega) (by omega)) (by omega) fun y h3 h4=>?_;exact keys_w a1 r y (by omega) (by omega)
theorem value_w (a1:Int) (n:Nat):∀v:Z7,v.sz<n->v.sz<=1048576->Gr (Z54_qn n v a1) 0 v.sz:=by
 induction n with
 | zero=>intro v h; omega
 | succ n ih =>
  intro v hn hs;have hd:=v.sz_def;have ht:Bs.sz v.FText=v.FText.length+1:=rfl;have hk:Sl.sz Bs.sz v.FKeys=1+(v.FKeys.l.map Bs.sz).sum:=rfl;have hi:Sl.sz Z7.sz v.FItems=1+(v.FItems.l.map Z7.sz).sum:=rfl;have hl:∀(l:List Z7) (s:Int),(∀x∈l,x.sz<n/\x.sz<=1048576)->0<=s->s+(l.map Z7.sz).sum<=1073741824->Gr (Z54_q11 a1 (Z54_qn n) l s) s (l.map Z7.sz).sum:=by
   intro l;induction l with
   | nil=>intro s _ _ _; exact Gr.refl _ _
   | cons a r ihl =>
    intro s hx h0 h;simp only [List.map_cons,List.sum_cons] at h ⊢;rw [Z54_q11];cases decide (s<=a1) with
    | false=>exact Gr.refl _ _
    | true =>
     simp only [cond_true,Ab.on];obtain⟨w,e,h1,h2⟩:=ih a (hx a (by simp)).1 (hx a (by simp)).2;rw [e,Option.bind_some];refine Gr.bind (a:=a.sz) (b:=(r.map Z7.sz).sum) (Gr.add (by omega) (by omega)) (by omega) fun y h3 h4=>?_;exact ihl y (fun x hx'=>hx x (by simp [hx'])) (by omega) (by omega)
  rw [Z54_qn,addC_ok (by omega),Option.bind_some];simp only [Ab.on];obtain⟨x,e1,x1,x2⟩:=keys_w a1 v.FKeys.l (1+(v.FText.length:Int)) (by omega) (by omega);rw [e1,Option.bind_some];obtain⟨y,e2,y1,y2⟩:=hl v.FItems.l x (fun z hz=>by have:=Z7.item_lt hz; omega) (by omega) (by omega);rw [e2];exact⟨y,rfl,by omega,by omega⟩
theorem value_W (a1:Int) (v:Z7) (h:v.sz<=1048576):Gr (Z54_q v a1) 0 v.sz:=value_w a1 F0 v (by rw [F0_eq]; omega) h
end Go.Proofs

namespace Go.Proofs
open Go Go.Ab
theorem dlen:∀(f u:Nat),u<10 ^ f->(Lib.decDigits u).length<=f+1:=by
 intro f;induction f with
 | zero =>
  intro u hu;have:u=0:=by simpa using hu
  subst this; rw [Lib.decDigits]; simp
 | succ f ih =>
  intro u hu;rw [Lib.decDigits]
  split
  ·simp
  ·have:=ih (u / 10) (by rw [Nat.pow_succ] at hu; omega);simp; omega
theorem dlen20 {u:Nat}(h:u<=9223372036854775808):(Lib.decDigits u).length<=21:=dlen 20 u (by omega)
theorem itoaLen {n:Int}(h0 : -9223372036854775808<=n) (h1:n<=9223372036854775807):(Lib.itoa n).length<=22:=by
 unfold Lib.itoa
 split
 ·have:=dlen20 (u:=n.natAbs) (by omega); simp; omega
 ·have:=dlen20 (u:=n.toNat) (by omega); omega
theorem textDecimal_eq {n:Int}(h0 : -9223372036854775808<=n) (h1:n<=9223372036854775807):Z143_q n=some (Lib.itoa n):=by
 unfold Z143_q Z130_q Z130;rw [if_pos ⟨h0,h1,by have:=itoaLen h0 h1; unfold maxS; omega⟩]; rfl
theorem all_u8 {p:UInt8->Prop}(h:∀i:Fin 256,p (UInt8.ofNat i.val)) (c:UInt8):p c:=by
 have:=h ⟨c.toNat,c.toNat_lt⟩
 simpa using this
def hx (n:Nat):UInt8:=if n<10 then UInt8.ofNat (48+n) else UInt8.ofNat (87+n)
def esc (c:UInt8):Bs:=if c=34 then [92,34] else if c=92 then [92,92] else if c=10 then [92,110] else if c=13 then [92,114] else if c=9 then [92,116] else if 32<=c.toNat/\c.toNat<=126 then [c] else [92,117,48,48,hx (c.toNat / 16),hx (c.toNat % 16)]
def qt (s:Bs):Bs:=34::(s.flatMap esc++[34])
theorem esc_len (c:UInt8):(esc c).length<=6:=by
 unfold esc; (repeat' split);all_goals simp
theorem flat_len (s:Bs):(s.flatMap esc).length<=6*s.length:=by
 induction s with
 | nil=>simp
 | cons a r ih=>have:=esc_len a; simp only [List.flatMap_cons,List.length_append,List.length_cons]; omega
theorem qt_len (s:Bs):(qt s).length<=6*s.length+2:=by have:=flat_len s; simp only [qt,List.length_append,List.length_cons,List.length_nil]; omega
def bb (l:Bs):Strings_Builder:=⟨true,⟨false,l.map fun b=>(b.toNat:Int)⟩⟩
theorem bb_len (l:Bs):(bb l).Fbuf.l.length=l.length:=by simp [bb]
theorem wb_eq (l:Bs) (c:UInt8) (h:l.length<=1099511627000):Z132_q (bb l) ((c.toNat:Nat):Int)=some ((),bb (l++[c])):=by
 unfold Z132_q Z134_q;rw [Option.bind_some,appC_ok (by decide) (by show (bb l).Fbuf.l.length+1<=_; rw [bb_len]; omega),Option.bind_some];simp [bb]
theorem ws_eq (l s:Bs) (h:l.length+s.length<=1099511627000):∃k,Z133_q (bb l) s=some (k,(),bb (l++s)):=by
 unfold Z133_q Z134_q;rw [Option.bind_some,appC_ok (by decide) (by show (bb l).Fbuf.l.length+_<=_; rw [bb_len,strSl_len]; omega),Option.bind_some];exact⟨(s.length:Nat),by simp [bb,strSl]⟩
theorem str_eq (l:Bs) (h:l≠[]):Z131_q (bb l)=some l:=by
 unfold Z131_q bldStr;have h1:(bb l).Fbuf.l.all (fun n=>decide (0<=n/\n<256))=true:=by
  rw [List.all_eq_true];intro x hx;obtain⟨b,_,rfl⟩:=List.mem_map.1 hx;have:=b.toNat_lt;exact decide_eq_true ⟨by omega,by omega⟩
 rw [if_pos ⟨h1,.inr ⟨rfl,by simp [bb,h]⟩⟩];have:bytesC (bb l).Fbuf=l:=by
  unfold bytesC bb;rw [List.map_map];conv=>rhs; rw [<- List.map_id l]
  refine List.map_congr_left fun b _=>?_;simp
 rw [this]
theorem hexHi (c:UInt8):idxC ([48,49,50,51,52,53,54,55,56,57,97,98,99,100,101,102]:Bs) (Int.fdiv ((c.toNat:Nat):Int) (2 ^ (min (Int.toNat 4) (IntKind.bits .u8))))=some (hx (c.toNat / 16)):=by
 revert c
 apply all_u8
 decide +kernel
theorem hexLo (c:UInt8):idxC ([48,49,50,51,52,53,54,55,56,57,97,98,99,100,101,102]:Bs) (IntKind.wrap .u8 ((BitVec.ofInt (IntKind.bits .u8) ((c.toNat:Nat):Int) &&& BitVec.ofInt (IntKind.bits .u8) (15:Int)).toNat:Int))=some (hx (c.toNat % 16)):=by
 revert c
 apply all_u8
 decide +kernel
theorem u8_ne {c d:UInt8}:decide (((c.toNat:Nat):Int)=((d.toNat:Nat):Int))=decide (c=d):=by
 by_cases h:c=d
 ·subst h; simp
 ·rw [decide_eq_false h,decide_eq_false];intro e; exact h (UInt8.toNat_inj.1 (by omega))
theorem tquote_loop:∀(s:Bs) (o:Bs),o.length+6*s.length<=1099511626000->Z145_q15 s (bb o)=some (bb (o++s.flatMap esc)):=by
 intro s;induction s with
 | nil=>intro o _; simp [Z145_q15]
 | cons a r ih =>
  intro o h;have hel:=esc_len a;simp only [List.length_cons] at h;have fin:∀x:Bs,x=esc a->Z145_q15 r (bb (o++x))=some (bb (o++(a::r).flatMap esc)):=by
   rintro _ rfl;rw [ih _ (by simp; omega)]; simp
  have e34:=u8_ne (c:=a) (d:=34); have e92:=u8_ne (c:=a) (d:=92); have e10:=u8_ne (c:=a) (d:=10); have e13:=u8_ne (c:=a) (d:=13); have e9:=u8_ne (c:=a) (d:=9);rw [Z145_q15];simp only [Ab.on];rw [show (34:Int)=(((34:UInt8).toNat:Nat):Int) from rfl,e34,show (92:Int)=(((92:UInt8).toNat:Nat):Int) from rfl,e92,show (10:Int)=(((10:UInt8).toNat:Nat):Int) from rfl,e10,show (13:Int)=(((13:UInt8).toNat:Nat):Int) from rfl,e13,show (9:Int)=(((9:UInt8).toNat:Nat):Int) from rfl,e9]
  by_cases c1:a=34
  ·rw [decide_eq_true c1,cond_true,cond_true,wb_eq _ _ (by omega),Option.bind_some,wb_eq _ _ (by simp; omega),Option.bind_some,Option.bind_some];simp only [List.append_assoc];exact fin _ (by rw [c1]; rfl)
  rw [decide_eq_false c1,cond_false];by_cases c2:a=92
  ·rw [decide_eq_true c2,cond_true,wb_eq _ _ (by omega),Option.bind_some,wb_eq _ _ (by simp; omega),Option.bind_some,Option.bind_some];simp only [List.append_assoc];exact fin _ (by rw [c2]; rfl)
  rw [decide_eq_false c2,cond_false];by_cases c3:a=10
  ·obtain⟨k,e⟩:=ws_eq o [92,110] (by simp; omega);rw [decide_eq_true c3,cond_true,e,Option.bind_some,Option.bind_some];exact fin _ (by rw [c3]; rfl)
  rw [decide_eq_false c3,cond_false];by_cases c4:a=13
  ·obtain⟨k,e⟩:=ws_eq o [92,114] (by simp; omega);rw [decide_eq_true c4,cond_true,e,Option.bind_some,Option.bind_some];exact fin _ (by rw [c4]; rfl)
  rw [decide_eq_false c4,cond_false];by_cases c5:a=9
  ·obtain⟨k,e⟩:=ws_eq o [92,116] (by simp; omega);rw [decide_eq_true c5,cond_true,e,Option.bind_some,Option.bind_some];exact fin _ (by rw [c5]; rfl)
  rw [decide_eq_false c5,cond_false];have he:esc a=if 32<=a.toNat/\a.toNat<=126 then [a] else [92,117,48,48,hx (a.toNat / 16),hx (a.toNat % 16)]:=by
   unfold esc; rw [if_neg c1,if_neg c2,if_neg c3,if_neg c4,if_neg c5]
  by_cases c6:32<=a.toNat/\a.toNat<=126
  ·rw [show ((decide ((32:Int)<=((a.toNat:Nat):Int)))&&(decide (((a.toNat:Nat):Int)<=(126:Int))))=true by simp; omega,cond_true,wb_eq _ _ (by omega),Option.bind_some,Option.bind_some];exact fin _ (by rw [he,if_pos c6])
  ·rw [show ((decide ((32:Int)<=((a.toNat:Nat):Int)))&&(decide (((a.toNat:Nat):Int)<=(126:Int))))=false by simp; omega,cond_false];obtain⟨k,e⟩:=ws_eq o [92,117,48,48] (by simp; omega);rw [e,Option.bind_some,hexHi,Option.bind_some,wb_eq _ _ (by simp; omega),Option.bind_some,hexLo,Option.bind_some,wb_eq _ _ (by simp; omega),Option.bind_some,Option.bind_some];simp only [List.append_assoc];exact fin _ (by rw [he,if_neg c6]; rfl)
theorem tquote_eq (s:Bs) (h:s.length<=1048576):Z145_q s=some (qt s):=by
 have hf:=flat_len s;unfold Z145_q;have h0:Z132_q Strings_Builder.zero (34:Int)=some ((),bb [34]):=by rfl
 rw [h0,Option.bind_some,tquote_loop _ _ (by simp; omega),Option.bind_some];simp only [Ab.on];rw [show (34:Int)=(((34:UInt8).toNat:Nat):Int) from rfl,wb_eq _ _ (by simp only [List.length_append,List.length_cons,List.length_nil]; omega),Option.bind_some,str_eq _ (by simp)];simp [qt]
def sepB:Bs:=[44,32]
def pairB (a b:Bs):Bs:=a++[58,32]++b
mutual
def wv:Z7->Bs
 | .mk k i t _ items keys=>if k=1 then(if i=0 then [102,97,108,115,101] else [116,114,117,101]) else if k=2 then Lib.itoa i else if k=3 then qt t else if k=4 then t else if k=7 then 36::t else
  if k=5 then 91::(Lib.join (wvL items) sepB++[93]) else if k=6 then 123::(Lib.join (List.zipWith pairB keys.l (wvL items)) sepB++[125]) else [110,117,108,108]
def wvL:List Z7->List Bs
 | []=>[]
 | v::r=>wv v::wvL r
end
theorem wvL_eq (l:List Z7):wvL l=l.map wv:=by
 induction l with
 | nil=>rw [wvL]; rfl
 | cons a r ih=>rw [wvL,ih]; rfl
theorem wv_eq (v:Z7):wv v=if v.FKind=1 then(if v.FInt=0 then [102,97,108,115,101] else [116,114,117,101]) else if v.FKind=2 then Lib.itoa v.FInt else if v.FKind=3 then qt v.FText else if v.FKind=4 then v.FText else if v.FKind=7 then 36::v.FText else
  if v.FKind=5 then 91::(Lib.join (v.FItems.l.map wv) sepB++[93]) else if v.FKind=6 then 123::(Lib.join (List.zipWith pairB v.FKeys.l (v.FItems.l.map wv)) sepB++[125]) else [110,117,108,108]:=by
 cases v with
 | mk k i t nl items keys =>
  rw [wv];simp only [Z7.FKind,Z7.FInt,Z7.FText,Z7.FItems,Z7.FKeys,wvL_eq];rfl
theorem tail_len (r:List Bs):(Lib.joinTail sepB r).length=(r.map fun x=>x.length+2).sum:=by
 induction r with
 | nil=>rfl
 | cons a r ih =>
  have:Lib.joinTail sepB (a::r)=sepB++a++Lib.joinTail sepB r:=by simp [Lib.joinTail]
  have h2:sepB.length=2:=rfl;rw [this,List.length_append,List.length_append,ih,List.map_cons,List.sum_cons]; omega
theorem join_len (l:List Bs):(Lib.join l sepB).length<=(l.map fun x=>x.length+2).sum:=by
 cases l with
 | nil=>rw [Lib.join_nil]; simp
 | cons a r=>rw [Lib.join_cons]; simp only [List.length_append,tail_len,List.map_cons,List.sum_cons]; omega
theorem sum_le {α:Type}(f g:α->Nat):∀(l:List α),(∀x∈l,f x<=g x)->(l.map f).sum<=(l.map g).sum
 | [],_=>by simp
 | a::r,h=>by have:=h a (by simp); have:=sum_le f g r fun x hx=>h x (by simp [hx]); simp only [List.map_cons,List.sum_cons]; omega
theorem zip_sum:∀(ks:List Bs) (ws:List Bs),((List.zipWith pairB ks ws).map fun x=>x.length+2).sum<=(ks.map Bs.sz).sum+(ws.map fun x=>x.length+4).sum
 | [],_=>by simp
 | _::_,[]=>by simp
 | a::r,b::t=>by
  have:=zip_sum r t;have h2:(pairB a b).length=a.length+2+b.length:=by simp [pairB]; omega
  have h3:Bs.sz a=a.length+1:=rfl;simp only [List.zipWith_cons_cons,List.map_cons,List.sum_cons,h2,h3]; omega
theorem mul_sum {α:Type}(f:α->Nat) (k:Nat) (l:List α):(l.map fun x=>k*f x).sum=k*(l.map f).sum:=by
 induction l with
 | nil=>simp
 | cons a r ih=>simp only [List.map_cons,List.sum_cons,ih,Nat.mul_add]
theorem count_le (l:List Z7):l.length<=(l.map Z7.sz).sum:=by
 induction l with
 | nil=>simp
 | cons a r ih=>have:=a.pos; simp only [List.length_cons,List.map_cons,List.sum_cons]; omega
theorem wv_len (n:Nat):∀v:Z7,v.sz<n->v.wf->(wv v).length+4<=32*v.sz:=by
 induction n with
 | zero=>intro v h; omega
 | succ n ih =>
  intro v hn hw;have hd:=v.sz_def;have ht:Bs.sz v.FText=v.FText.length+1:=rfl;have hk:Sl.sz Bs.sz v.FKeys=1+(v.FKeys.l.map Bs.sz).sum:=rfl;have hi:Sl.sz Z7.sz v.FItems=1+(v.FItems.l.map Z7.sz).sum:=rfl;have hwf:=(Z7.wf_iff v).1 hw;have hit:((v.FItems.l.map wv).map fun x=>x.length+4).sum<=32*(v.FItems.l.map Z7.sz).sum:=by
   rw [List.map_map,<- mul_sum];exact sum_le _ _ _ fun x hx=>ih x (by have:=Z7.item_lt hx; omega) (hwf.2.2.2.1.2.2 x hx)
  have hi2:((v.FItems.l.map wv).map fun x=>x.length+2).sum<=((v.FItems.l.map wv).map fun x=>x.length+4).sum:=sum_le _ _ _ fun _ _=>by omega
  have hin:(Lib.itoa v.FInt).length<=22:=itoaLen hwf.2.1.1 hwf.2.1.2;have hj:=join_len (v.FItems.l.map wv);have hz:=join_len (List.zipWith pairB v.FKeys.l (v.FItems.l.map wv));have hz2:=zip_sum v.FKeys.l (v.FItems.l.map wv);have hq:=qt_len v.FText;rw [wv_eq]
  (repeat' split)
  all_goals (try simp only [List.length_cons,List.length_append,List.length_nil])<;>omega
theorem join_eq (nl:Bool) (l:List Bs) (h:l.length<=1099511627776/\(Lib.join l sepB).length<=1099511627776):Z142 ⟨nl,l⟩ ([44,32]:Bs)=some (Lib.join l sepB):=by
 unfold Z142 joinA;have h1:l.length<=maxN:=by unfold maxN; omega
 have h2:(Lib.join l [44,32]).length<=maxN:=by have:=h.2; unfold sepB at this; unfold maxN; omega
 rw [if_pos ⟨h1,h2⟩]; rfl
theorem vj29 {nl:Bool}{l:List Bs}(h:l.length<=1099511627776/\(Lib.join l sepB).length<=1099511627776):Z121_j29 ⟨nl,l⟩=some (91::(Lib.join l sepB++[93])):=by
 unfold Z121_j29;rw [join_eq nl l h,Option.bind_some,catC_ok (by simp only [List.length_cons,List.length_nil]; omega),Option.bind_some,catC_ok (by simp only [List.length_append,List.length_cons,List.length_nil]; omega),Option.bind_some];simp
theorem vj50 {nl:Bool}{l:List Bs}(h:l.length<=1099511627776/\(Lib.join l sepB).length<=1099511627776):Z121_j50 ⟨nl,l⟩=some (123::(Lib.join l sepB++[125])):=by
 unfold Z121_j50;rw [join_eq nl l h,Option.bind_some,catC_ok (by simp only [List.length_cons,List.length_nil]; omega),Option.bind_some,catC_ok (by simp only [List.length_append,List.length_cons,List.length_nil]; omega),Option.bind_some];simp
theorem vlist {v:Z7}{rec:Z7->Option Bs}(hr:∀x∈v.FItems.l,rec x=some (wv x)) (hl:v.FItems.l.length<=1048576):∀(n i:Nat) (nl:Bool),i<=v.FItems.l.length->v.FItems.l.length-i<n ->
  ∃nl',Z121_l37 v rec n ⟨nl,(v.FItems.l.take i).map wv⟩ i=Z121_j29 ⟨nl',v.FItems.l.map wv⟩
 | 0,_,_,_,h=>by omega
 | n+1,i,nl,h1,h2=>by
  rw [Z121_l37];by_cases hi:i<v.FItems.l.length
  ·rw [decide_eq_true (by omega:((i:Nat):Int)<((v.FItems.l.length:Nat):Int)),cond_true,List.getElem?_eq_getElem hi,Option.bind_some,hr _ (List.getElem_mem hi),Option.bind_some,
    appC_ok (by decide) (by simp only [List.length_map,List.length_take,List.length_cons,List.length_nil]; omega),Option.bind_some]
   have e:(v.FItems.l.take i).map wv++[wv v.FItems.l[i]]=(v.FItems.l.take (i+1)).map wv:=by
    rw [List.take_add_one,List.getElem?_eq_getElem hi,List.map_append]; rfl
   simp only [e];exact vlist hr hl n (i+1) _ (by omega) (by omega)
  ·rw [decide_eq_false (by omega:¬((i:Nat):Int)<((v.FItems.l.length:Nat):Int)),cond_false,List.take_of_length_le (by omega)];exact⟨nl,rfl⟩
theorem vobj {v:Z7}{rec:Z7->Option Bs}(hr:∀x∈v.FItems.l,rec x=some (wv x)) (hb:∀x∈v.FItems.l,(wv x).length<=1099511627) (hkb:∀x∈v.FKeys.l,x.length<=1048576) (hl:v.FItems.l.length<=1048576) (hk:v.FKeys.l.length<=1048576):∀(n i:Nat) (nl:Bool),i<=(List.zipWith pairB v.FKeys.l (v.FItems.l.map wv)).length->(List.zipWith pairB v.FKeys.l (v.FItems.l.map wv)).length-i<n ->
  ∃nl',Z121_l59 v rec n ⟨nl,(List.zipWith pairB v.FKeys.l (v.FItems.l.map wv)).take i⟩ (i:Int)=Z121_j50 ⟨nl',List.zipWith pairB v.FKeys.l (v.FItems.l.map wv)⟩
 | 0,_,_,_,h=>by omega
 | n+1,i,nl,h1,h2=>by
  have hz:(List.zipWith pairB v.FKeys.l (v.FItems.l.map wv)).length=min v.FKeys.l.length v.FItems.l.length:=by rw [List.length_zipWith,List.length_map]
  have hm:(if ((v.FItems.l.length:Nat):Int)<((v.FKeys.l.length:Nat):Int) then((v.FItems.l.length:Nat):Int) else((v.FKeys.l.length:Nat):Int))=((min v.FKeys.l.length v.FItems.l.length:Nat):Int):=by split<;>omega
  rw [Z121_l59,hm];by_cases hi:i<min v.FKeys.l.length v.FItems.l.length
  ·have k1:i<v.FKeys.l.length:=by omega
   have k2:i<v.FItems.l.length:=by omega
   have x1:idxC v.FKeys.l (i:Int)=some v.FKeys.l[i]:=by unfold idxC; rw [if_pos (by omega),Int.toNat_natCast,List.getElem?_eq_getElem k1]
   have x2:idxC v.FItems.l (i:Int)=some v.FItems.l[i]:=by unfold idxC; rw [if_pos (by omega),Int.toNat_natCast,List.getElem?_eq_getElem k2]
   have b1:=hkb _ (List.getElem_mem k1);have b2:=hb _ (List.getElem_mem k2);have ha:addC (i:Int) 1=some ((i+1:Nat):Int):=by rw [addC_ok (by omega)]; rfl
   rw [decide_eq_true (by omega:((i:Nat):Int)<((min v.FKeys.l.length v.FItems.l.length:Nat):Int)),cond_true,x1,Option.bind_some,catC_ok (by simp only [List.length_cons,List.length_nil]; omega),Option.bind_some,x2,Option.bind_some,hr _ (List.getElem_mem k2),Option.bind_some,
    catC_ok (by simp only [List.length_append,List.length_cons,List.length_nil]; omega),Option.bind_some,appC_ok (by decide) (by simp only [List.length_take,List.length_cons,List.length_nil]; omega),Option.bind_some,ha,Option.bind_some]
   have e:(List.zipWith pairB v.FKeys.l (v.FItems.l.map wv)).take i++[v.FKeys.l[i]++[58,32]++wv v.FItems.l[i]]=(List.zipWith pairB v.FKeys.l (v.FItems.l.map wv)).take (i+1):=by
    rw [List.take_add_one,List.getElem?_eq_getElem (by omega),List.getElem_zipWith,List.getElem_map]; rfl
   simp only [e];exact vobj hr hb hkb hl hk n (i+1) _ (by omega) (by omega)
  ·rw [decide_eq_false (by omega:¬((i:Nat):Int)<((min v.FKeys.l.length v.FItems.l.length:Nat):Int)),cond_false,List.take_of_length_le (by omega)];exact⟨nl,rfl⟩
theorem sval_n (n:Nat):∀v:Z7,v.sz<n->v.sz<=1048576->v.wf->Z121_n n v=some (wv v):=by
 induction n with
 | zero=>intro v h; omega
 | succ n ih =>
  intro v hn hs hw;have hd:=v.sz_def;have ht:Bs.sz v.FText=v.FText.length+1:=rfl;have hk:Sl.sz Bs.sz v.FKeys=1+(v.FKeys.l.map Bs.sz).sum:=rfl;have hi:Sl.sz Z7.sz v.FItems=1+(v.FItems.l.map Z7.sz).sum:=rfl;have hwf:=(Z7.wf_iff v).1 hw;have hrec:∀x∈v.FItems.l,Z121_n n x=some (wv x):=fun x hx=>ih x (by have:=Z7.item_lt hx; omega) (by have:=Z7.item_lt hx; omega) (hwf.2.2.2.1.2.2 x hx);have hbl:∀x∈v.FItems.l,(wv x).length+4<=32*x.sz:=fun x hx=>wv_len (x.sz+1) x (by omega) (hwf.2.2.2.1.2.2 x hx)
  have hit:((v.FItems.l.map wv).map fun x=>x.length+4).sum<=32*(v.FItems.l.map Z7.sz).sum:=by
   rw [List.map_map,<- mul_sum];exact sum_le _ _ _ fun x hx=>hbl x hx
  have hi2:((v.FItems.l.map wv).map fun x=>x.length+2).sum<=((v.FItems.l.map wv).map fun x=>x.length+4).sum:=sum_le _ _ _ fun _ _=>by omega
  have hz2:=zip_sum v.FKeys.l (v.FItems.l.map wv);have hj:=join_len (v.FItems.l.map wv);have hz:=join_len (List.zipWith pairB v.FKeys.l (v.FItems.l.map wv));have hc:=count_le v.FItems.l;have hkl:=Sl.len_le (f:=Bs.sz) v.FKeys (fun x=>Bs.sz_pos x);rw [Z121_n,wv_eq];by_cases c1:v.FKind=1
  ·rw [if_pos c1,decide_eq_true c1,cond_true];by_cases c:v.FInt=0
   ·rw [if_pos c,decide_eq_true c,cond_true]
   ·rw [if_neg c,decide_eq_false c,cond_false]
  rw [if_neg c1,decide_eq_false c1,cond_false];by_cases c2:v.FKind=2
  ·rw [if_pos c2,decide_eq_true c2,cond_true,Z143_eq,textDecimal_eq hwf.2.1.1 hwf.2.1.2,Option.bind_some]
  rw [if_neg c2,decide_eq_false c2,cond_false];by_cases c3:v.FKind=3
  ·rw [if_pos c3,decide_eq_true c3,cond_true,Z145_eq,tquote_eq _ (by omega),Option.bind_some]
  rw [if_neg c3,decide_eq_false c3,cond_false];by_cases c4:v.FKind=4
  ·rw [if_pos c4,decide_eq_true c4,cond_true]
  rw [if_neg c4,decide_eq_false c4,cond_false];by_cases c7:v.FKind=7
  ·rw [if_pos c7,decide_eq_true c7,cond_true,catC_ok (by simp only [List.length_cons,List.length_nil]; omega),Option.bind_some]; rfl
  rw [if_neg c7,decide_eq_false c7,cond_false];by_cases c5:v.FKind=5
  ·obtain⟨nl,e⟩:=vlist hrec (by omega) (v.FItems.l.length+1) 0 true (Nat.zero_le _) (by omega);rw [if_pos c5,decide_eq_true c5,cond_true];refine e.trans (vj29 ⟨by rw [List.length_map]; omega,by omega⟩)
  rw [if_neg c5,decide_eq_false c5,cond_false];by_cases c6:v.FKind=6
  ·have hzl:(List.zipWith pairB v.FKeys.l (v.FItems.l.map wv)).length<=v.FItems.l.length:=by rw [List.length_zipWith,List.length_map]; omega
   obtain⟨nl,e⟩:=vobj hrec (fun x hx=>by have:=hbl x hx; have:=Z7.item_lt hx; omega) (fun x hx=>by have:=Sl.mem_le (f:=Bs.sz) hx; have:Bs.sz x=x.length+1:=rfl; omega) (by omega) (by omega) F0 0 true (Nat.zero_le _) (by rw [F0_eq]; omega);rw [if_pos c6,decide_eq_true c6,cond_true];refine e.trans (vj50 ⟨by omega,by omega⟩)
  rw [if_neg c6,decide_eq_false c6,cond_false]
theorem sval_eq {v:Z7}(hs:v.sz<=1048576) (hw:v.wf):Z121 v=some (wv v):=sval_n F0 v (by rw [F0_eq]; omega) hs hw
theorem wv_le {v:Z7}(hs:v.sz<=1048576) (hw:v.wf):(wv v).length<=33554432:=by have:=wv_len (v.sz+1) v (by omega) hw; omega
def cls:List Int->Bs
 | []=>[]
 | w::r=>cls r++[if w=1 then 33 else 93]
def cnt:List Int->Nat
 | []=>0
 | w::r=>(if w=1 then 0 else 1)+cnt r
theorem cnt_le:∀l,cnt l<=l.length
 | []=>Nat.le_refl _
 | w::r=>by have:=cnt_le r; rw [cnt,List.length_cons]; split<;>omega
theorem cls_len:∀l,(cls l).length=l.length
 | []=>rfl
 | w::r=>by rw [cls,List.length_append,cls_len r]; rfl
def prt (N:Bs) (W:List Int):Bs:=List.replicate (cnt W) 91++(N++cls W)
def Rp (B:Strings_Builder) (l:Bs):Prop:=(l=[]/\B.Fbuf=⟨true,[]⟩)\/(l≠[]/\B.Fbuf=⟨false,l.map fun b=>(b.toNat:Int)⟩)
theorem Rp.buf {B:Strings_Builder}{l:Bs}(h:Rp B l):B.Fbuf.l=l.map fun b=>(b.toNat:Int):=by
 rcases h with ⟨rfl,h⟩|⟨_,h⟩<;>rw [h]; rfl
theorem byte_cast {n:Int}(h0:0<=n) (h1:n<256):((UInt8.ofNat n.toNat).toNat:Int)=n:=by
 rw [UInt8.toNat_ofNat',Nat.mod_eq_of_lt (by omega)]; omega
theorem Rp.wb {B:Strings_Builder}{l:Bs}(h:Rp B l){n:Int}(h0:0<=n) (h1:n<256) (hl:l.length<=1048576):∃B',Z132 B n=some ((),B')/\Rp B' (l++[UInt8.ofNat n.toNat]):=by
 refine⟨⟨true,⟨false,(l++[UInt8.ofNat n.toNat]).map fun b=>(b.toNat:Int)⟩⟩, ?_,.inr ⟨by simp,rfl⟩⟩;have hb:=h.buf;have hlen:B.Fbuf.l.length=l.length:=by rw [hb,List.length_map]
 unfold Z132 Z134 appC;simp only [Option.bind_some];rw [if_pos (by rw [hlen]; simp only [List.length_cons,List.length_nil]; unfold maxN; omega)];simp only [Option.bind_some,hb,List.map_append,List.map_cons,List.map_nil,byte_cast h0 h1,List.isEmpty_cons,Bool.and_false]
theorem Rp.str {B:Strings_Builder}{l:Bs}(h:Rp B l):Z131 B=some l:=by
 unfold Z131 bldStr;rw [if_pos]
 ·refine congrArg some ?_;unfold bytesC;rw [h.buf,List.map_map];conv=>rhs; rw [<- List.map_id l]
  refine List.map_congr_left fun b _=>?_;simp
 ·refine⟨?_, ?_⟩
  ·rw [h.buf,List.all_map,List.all_eq_true];intro b _;have:=b.toNat_lt;simp; omega
  ·rcases h with ⟨_,h⟩|⟨h2,h⟩
   ·rw [h]; exact .inl ⟨rfl,rfl⟩
   ·rw [h]; exact .inr ⟨rfl,by simpa using h2⟩
theorem idxP (l:List Int) (i:Nat):idxC l (i:Int)=l[i]?:=by unfold idxC; rw [if_pos (by omega)]; simp
theorem tprint4 (a:TRef) (hN:a.FName.length<=1048576) (hW:a.FWraps.l.length<=1048576):∀(n k:Nat) (B C:Strings_Builder),k<n->k<=a.FWraps.l.length->Rp B (List.replicate (cnt (a.FWraps.l.drop k)) 91)->Rp C (cls (a.FWraps.l.drop k))->Z159_l18 a n ((k:Int)-1) B C=some (prt a.FName a.FWraps.l)
 | 0,_,_,_,h,_,_,_=>by omega
 | n+1,0,B,C,_,_,hB,hC=>by
  have c1:=cnt_le a.FWraps.l;have c2:=cls_len a.FWraps.l;rw [Z159_l18,show decide ((0:Int)<=((0:Nat):Int)-1)=false from rfl,cond_false];unfold Z159_j7;rw [List.drop_zero] at hB hC;rw [hB.str,Option.bind_some,catC_ok (by simp; omega),Option.bind_some,hC.str,Option.bind_some,catC_ok (by simp; omega)];simp [prt]
 | n+1,k+1,B,C,h,hk,hB,hC=>by
  have c1:=cnt_le (a.FWraps.l.drop (k+1));have c2:=cls_len (a.FWraps.l.drop (k+1));simp only [List.length_drop] at c1 c2;obtain⟨w,hw⟩:∃w,a.FWraps.l[k]?=some w:=⟨_,List.getElem?_eq_getElem (show k<a.FWraps.l.length by omega)⟩;have hd:a.FWraps.l.drop k=w::a.FWraps.l.drop (k+1):=by
   obtain⟨hi,rfl⟩:=List.getElem?_eq_some_iff.1 hw;exact List.drop_eq_getElem_cons hi
  have hj:∀B C,Z159_j25 (k:Int) (Z159_l18 a n) B C=Z159_l18 a n ((k:Int)-1) B C:=by
   intro B C;unfold Z159_j25;rw [subC_ok (by omega),Option.bind_some]
  rw [Z159_l18,show ((k+1:Nat):Int)-1=(k:Int) by omega,show decide ((0:Int)<=(k:Int))=true from decide_eq_true (by omega),cond_true,idxP,hw,Option.bind_some];obtain⟨C1,u1,u2⟩:=hC.wb (n:=33) (by omega) (by omega) (by omega);obtain⟨C2,v1,v2⟩:=hC.wb (n:=93) (by omega) (by omega) (by omega);obtain⟨B1,x1,x2⟩:=hB.wb (n:=91) (by omega) (by omega) (by simp; omega);by_cases h1:w=1
  ·rw [decide_eq_true h1,cond_true,u1,Option.bind_some,hj];refine tprint4 a hN hW n k B C1 (by omega) (by omega) ?_ ?_
   ·rw [hd,cnt,if_pos h1,Nat.zero_add]; exact hB
   ·rw [hd,cls,if_pos h1]; exact u2
  ·rw [decide_eq_false h1,cond_false,x1,Option.bind_some,v1,Option.bind_some,hj];refine tprint4 a hN hW n k B1 C2 (by omega) (by omega) ?_ ?_
   ·rw [hd,cnt,if_neg h1,Nat.add_comm,List.replicate_succ']; exact x2
   ·rw [hd,cls,if_neg h1]; exact v2
theorem tprint4_eq {a:TRef}(hN:a.FName.length<=1048576) (hW:a.FWraps.l.length<=1048576):Z159 a=some (prt a.FName a.FWraps.l):=by
 unfold Z159;rw [subC_ok (by omega),Option.bind_some];refine tprint4 a hN hW F0 a.FWraps.l.length _ _ (by rw [F0_eq]; omega) (by omega) ?_ ?_
 ·rw [List.drop_of_length_le (by omega)]; exact .inl ⟨rfl,rfl⟩
 ·rw [List.drop_of_length_le (by omega)]; exact .inl ⟨rfl,rfl⟩
theorem prt_len {N:Bs}{W:List Int}:(prt N W).length<=N.length+2*W.length:=by
 have:=cnt_le W;unfold prt; simp only [List.length_append,List.length_replicate,cls_len]; omega
end Go.Proofs

namespace Go.Proofs
open Go Go.Ab
theorem cmpB_zero:∀s t:Bs,Lib.compareBytes s t=0↔s=t
 | [],[]=>by simp [Lib.compareBytes]
 | [],_::_=>by simp [Lib.compareBytes]
 | _::_,[]=>by simp [Lib.compareBytes]
 | a::r,b::q=>by
  rw [Lib.compareBytes];by_cases h1:a<b
  ·rw [if_pos h1];exact⟨fun h=>(by cases h),fun h=>by cases h; exact absurd h1 (UInt8.lt_irrefl _)⟩
  ·rw [if_neg h1];by_cases h2:b<a
   ·rw [if_pos h2];exact⟨fun h=>(by cases h),fun h=>by cases h; exact absurd h2 (UInt8.lt_irrefl _)⟩
   ·rw [if_neg h2,cmpB_zero r q];have:a=b:=UInt8.le_antisymm (UInt8.not_lt.1 h2) (UInt8.not_lt.1 h1);rw [this]; simp
theorem cmpI (a b:Int):∃c,Z26 a b=some c/\(c=0↔a=b):=by
 unfold Z26 Z27;simp only [decide_true,Bool.not_true,Option.bind_some,cond_false];by_cases h1:a<b
 ·rw [decide_eq_true h1]; exact⟨-1,rfl,⟨fun h=>(by cases h),fun h=>by omega⟩⟩
 ·rw [decide_eq_false h1];by_cases h2:b<a
  ·rw [decide_eq_true h2]; exact⟨1,rfl,⟨fun h=>(by cases h),fun h=>by omega⟩⟩
  ·rw [decide_eq_false h2]; exact⟨0,rfl,⟨fun _=>by omega,fun _=>rfl⟩⟩
theorem key_eq (v:Z7) (i:Nat):Z167 v (i:Int)=some (v.FKeys.l.getD i []):=by
 unfold Z167;by_cases h:i<v.FKeys.l.length
 ·have x1:idxC v.FKeys.l (i:Int)=some v.FKeys.l[i]:=by unfold idxC; rw [if_pos (by omega),Int.toNat_natCast,List.getElem?_eq_getElem h]
  rw [decide_eq_true (by omega:((i:Nat):Int)<((v.FKeys.l.length:Nat):Int)),cond_true,x1,Option.bind_some,List.getD_eq_getElem?_getD,List.getElem?_eq_getElem h]; rfl
 ·rw [decide_eq_false (by omega:¬((i:Nat):Int)<((v.FKeys.l.length:Nat):Int)),cond_false,List.getD_eq_getElem?_getD,List.getElem?_eq_none (by omega)]; rfl
def AtR (R:Z7->Z7->Prop) (v w:Z7) (j:Nat):Prop:=v.FKeys.l.getD j []=w.FKeys.l.getD j []/\∃x y,v.FItems.l[j]?=some x/\w.FItems.l[j]?=some y/\R x y
def EqV:Nat->Z7->Z7->Prop
 | 0,_,_=>False
 | n+1,v,w=>v.FKind=w.FKind/\v.FInt=w.FInt/\v.FText=w.FText/\v.FItems.l.length=w.FItems.l.length/\∀j,0<=j->j<v.FItems.l.length->AtR (EqV n) v w j
theorem l37_spec {v w:Z7}{rec:Z7->Z7->Option Int}{k:Int->Int->Option Int}{n:Nat}(hk:∀z,k z 1=some z) (hrec:∀x∈v.FItems.l,∀y∈w.FItems.l,∃c,rec x y=some c/\(c=0↔EqV n x y)) (hl:v.FItems.l.length<=1048576) :
  ∀(f i:Nat),i<=min v.FItems.l.length w.FItems.l.length->min v.FItems.l.length w.FItems.l.length-i<f ->
   ∃c,Z165_l37 v w 0 k rec f (i:Int)=some c/\(c=0↔(v.FItems.l.length=w.FItems.l.length/\∀j,i<=j->j<v.FItems.l.length->AtR (EqV n) v w j))
 | 0,_,_,h=>by omega
 | f+1,i,h1,h2=>by
  have hm:(if ((w.FItems.l.length:Nat):Int)<((v.FItems.l.length:Nat):Int) then((w.FItems.l.length:Nat):Int) else((v.FItems.l.length:Nat):Int))=((min v.FItems.l.length w.FItems.l.length:Nat):Int):=by split<;>omega
  rw [Z165_l37,hm];by_cases hi:i<min v.FItems.l.length w.FItems.l.length
  ·have k1:i<v.FItems.l.length:=by omega
   have k2:i<w.FItems.l.length:=by omega
   have x1:idxC v.FItems.l (i:Int)=some v.FItems.l[i]:=by unfold idxC; rw [if_pos (by omega),Int.toNat_natCast,List.getElem?_eq_getElem k1]
   have x2:idxC w.FItems.l (i:Int)=some w.FItems.l[i]:=by unfold idxC; rw [if_pos (by omega),Int.toNat_natCast,List.getElem?_eq_getElem k2]
   have ha:addC (i:Int) 1=some ((i+1:Nat):Int):=by rw [addC_ok (by omega)]; rfl
   rw [decide_eq_true (by omega:((i:Nat):Int)<((min v.FItems.l.length w.FItems.l.length:Nat):Int)),cond_true,key_eq,Option.bind_some,key_eq,Option.bind_some,show Z135 (v.FKeys.l.getD i []) (w.FKeys.l.getD i [])=some (Lib.compareBytes (v.FKeys.l.getD i []) (w.FKeys.l.getD i [])) from rfl,Option.bind_some];have hc:=cmpB_zero (v.FKeys.l.getD i []) (w.FKeys.l.getD i []);by_cases c0:Lib.compareBytes (v.FKeys.l.getD i []) (w.FKeys.l.getD i [])=0
   ·rw [decide_eq_true c0,Bool.not_true,cond_false,x1,Option.bind_some,x2,Option.bind_some];obtain⟨c,e1,e2⟩:=hrec _ (List.getElem_mem k1) _ (List.getElem_mem k2);rw [e1,Option.bind_some];by_cases c1:c=0
    ·rw [decide_eq_true c1,Bool.not_true,cond_false,ha,Option.bind_some];obtain⟨z,z1,z2⟩:=l37_spec hk hrec hl f (i+1) (by omega) (by omega);refine⟨z,z1,z2.trans ⟨fun⟨u1,u2⟩=>⟨u1,fun j j1 j2=>?_⟩,fun⟨u1,u2⟩=>⟨u1,fun j j1 j2=>u2 j (by omega) j2⟩⟩⟩;rcases Nat.lt_or_ge i j with j3|j3
     ·exact u2 j j3 j2
     ·obtain rfl:j=i:=by omega
      exact⟨hc.1 c0,_,_,List.getElem?_eq_getElem k1,List.getElem?_eq_getElem k2,e2.1 c1⟩
    ·rw [decide_eq_false c1,Bool.not_false,cond_true];refine⟨c,rfl,⟨fun h=>absurd h c1,fun⟨u1,u2⟩=>?_⟩⟩;obtain⟨_,x,y,g1,g2,g3⟩:=u2 i (Nat.le_refl _) k1;rw [List.getElem?_eq_getElem k1] at g1; rw [List.getElem?_eq_getElem k2] at g2;cases g1; cases g2;exact e2.2 g3
   ·rw [decide_eq_false c0,Bool.not_false,cond_true];refine⟨_,rfl,⟨fun h=>absurd h c0,fun⟨u1,u2⟩=>hc.2 (u2 i (Nat.le_refl _) k1).1⟩⟩
  ·rw [decide_eq_false (by omega:¬((i:Nat):Int)<((min v.FItems.l.length w.FItems.l.length:Nat):Int)),cond_false];obtain⟨c,e1,e2⟩:=cmpI ((v.FItems.l.length:Nat):Int) ((w.FItems.l.length:Nat):Int);unfold Z165_j30 Z165_j14;rw [e1,Option.bind_some,addC_ok (by omega),Option.bind_some];refine⟨c,hk c,e2.trans ⟨fun h=>⟨by omega,fun j j1 j2=>by omega⟩,fun⟨h,_⟩=>by rw [h]⟩⟩
theorem cmpV (n:Nat):∀v w:Z7,v.sz<n->v.sz<=1048576->∃c,Z165_n n v w=some c/\(c=0↔EqV n v w):=by
 induction n with
 | zero=>intro v w h; omega
 | succ n ih =>
  intro v w hn hs;have hd:=v.sz_def;have hi:Sl.sz Z7.sz v.FItems=1+(v.FItems.l.map Z7.sz).sum:=rfl;have hl:=Sl.len_le (f:=Z7.sz) v.FItems (fun x=>x.pos);obtain⟨m,hm⟩:∃m,F0=m+1+1:=⟨F0-2,by rw [F0_eq]⟩;rw [Z165_n,show Z165_l8 v w (Z165_n n) F0 0 0=Z165_l8 v w (Z165_n n) (m+1+1) 0 0 from by rw [<- hm],Z165_l8,show decide ((0:Int)<1)=true from rfl,cond_true];by_cases c1:v.FKind=w.FKind
  ·rw [decide_eq_true c1,Bool.not_true,cond_false];by_cases c2:v.FInt=w.FInt
   ·rw [decide_eq_true c2,Bool.not_true,cond_false];by_cases c3:v.FText=w.FText
    ·rw [beq_iff_eq.mpr c3,Bool.not_true,cond_false];obtain⟨c,e1,e2⟩:=l37_spec (v:=v) (w:=w) (rec:=Z165_n n) (k:=Z165_l8 v w (Z165_n n) (m+1)) (n:=n) (fun z=>by rw [Z165_l8,show decide ((1:Int)<1)=false from rfl,cond_false]; rfl)
      (fun x hx y _=>ih x y (by have:=Z7.item_lt hx; omega) (by have:=Z7.item_lt hx; omega)) (by omega) F0 0 (Nat.zero_le _) (by rw [F0_eq]; omega)
     exact⟨c,e1,e2.trans ⟨fun⟨u1,u2⟩=>⟨c1,c2,c3,u1,u2⟩,fun⟨_,_,_,u1,u2⟩=>⟨u1,u2⟩⟩⟩
    ·rw [show (v.FText==w.FText)=false from beq_eq_false_iff_ne.mpr c3,Bool.not_false,cond_true,show Z135 v.FText w.FText=some (Lib.compareBytes v.FText w.FText) from rfl,Option.bind_some];exact⟨_,rfl,⟨fun h=>absurd ((cmpB_zero _ _).1 h) c3,fun⟨_,_,h,_⟩=>absurd h c3⟩⟩
   ·obtain⟨c,e1,e2⟩:=cmpI v.FInt w.FInt;rw [decide_eq_false c2,Bool.not_false,cond_true,e1,Option.bind_some];exact⟨c,rfl,⟨fun h=>absurd (e2.1 h) c2,fun⟨_,h,_⟩=>absurd h c2⟩⟩
  ·obtain⟨c,e1,e2⟩:=cmpI v.FKind w.FKind;rw [decide_eq_false c1,Bool.not_false,cond_true,e1,Option.bind_some];exact⟨c,rfl,⟨fun h=>absurd (e2.1 h) c1,fun⟨h,_⟩=>absurd h c1⟩⟩
def vsX (v w:Z7):Bool:=(Z166_q v w).getD false
theorem vsame {v w:Z7}(hv:v.sz<=1048576):Z166_q v w=some (vsX v w)/\(vsX v w=true↔EqV F0 v w):=by
 obtain⟨c,e1,e2⟩:=cmpV F0 v w (by rw [F0_eq]; omega) hv;have e:Z166_q v w=some (decide (c=0)):=by unfold Z166_q Z165; rw [e1]; rfl
 have e':vsX v w=decide (c=0):=by unfold vsX; rw [e]; rfl
 rw [e'];exact⟨e,by rw [decide_eq_true_iff]; exact e2⟩
end Go.Proofs

namespace Go.Proofs
open Go Go.Ab
def maxD:Nat:=1500000000000
theorem app88 {s r:Sl Z2}(h:s.l.length+r.l.length<=maxD):appC 88 s r=some ⟨s.nl&&r.l.isEmpty,s.l++r.l⟩:=by
 unfold appC; rw [if_pos];have:(s.l.length+r.l.length)*88<=1500000000000*88:=Nat.mul_le_mul_right _ h;unfold maxN; omega
def DF (o:Option Z0) (n:Bs) (s X:List Z2):Prop:=s.length+X.length<=maxD->∃nl,o=some (Z0.mk n ⟨nl,s++X⟩)
theorem DF.pure (n:Bs) (nl:Bool) (s:List Z2):DF (some (Z0.mk n ⟨nl,s⟩)) n s []:=fun _=>⟨nl,by simp⟩
theorem DF.bind {o:Option Z0}{f:Z0->Option Z0}{n m:Bs}{s X Y:List Z2}(h:DF o n s X) (hf:∀nl,DF (f (Z0.mk n ⟨nl,s++X⟩)) m (s++X) Y):DF (o.bind f) m s (X++Y):=fun hb=>by
 rw [List.length_append] at hb;obtain⟨nl,e⟩:=h (by omega);obtain⟨nl2,e2⟩:=hf nl (by rw [List.length_append]; omega);exact⟨nl2,by rw [e,Option.bind_some,e2,List.append_assoc]⟩
theorem DF.id {o:Option Z0}{n:Bs}{s X:List Z2}(h:DF o n s X):DF (o.bind fun x=>some x) n s X:=fun hb=>by
 obtain⟨nl,e⟩:=h hb;exact⟨nl,by rw [e]; rfl⟩
theorem DF.of {o:Option Z0}{n:Bs}{s X Y:List Z2}(h:DF o n s X) (e:X=Y):DF o n s Y:=e▸h
theorem add_df (n:Bs) (nl:Bool) (s:List Z2) (k:Int) (f a x y:Bs):DF (Z13_q (Z0.mk n ⟨nl,s⟩) k f a x y) n s [Z2.mk k n f a x y]:=fun hb=>by
 unfold Z13_q;rw [app88 (s:=⟨nl,s⟩) hb,Option.bind_some];exact⟨_,rfl⟩
def prX (t:TRef):Bs:=prt t.FName t.FWraps.l
def deX (x:Z5):Bs:=bif !x.FHas then [] else wv x.FDefault
def itX (x:Z5):Bs:=bif !x.FHas then prX x.FType else prX x.FType++[32,61,32]++deX x
def saV (a b:TRef):Bool:=a.FName==b.FName&&decide (a.FWraps.l=b.FWraps.l)
structure ROk (t:TRef):Prop where
 n:t.FName.length<=1048576
 w:t.FWraps.l.length<=1048576
structure IOk (x:Z5):Prop where
 r:ROk x.FType
 s:x.FDefault.sz<=1048576
 f:x.FDefault.wf
theorem print_is {t:TRef}(h:ROk t):Z159_q t=some (prX t):=tprint4_eq h.n h.w
theorem prX_len {t:TRef}(h:ROk t):(prX t).length<=3145728:=by
 have:=prt_len (N:=t.FName) (W:=t.FWraps.l); have:=h.n; have:=h.w; unfold prX; omega
theorem def_is {x:Z5}(h:IOk x):Z12_q x=some (deX x)/\(deX x).length<=33554432:=by
 unfold Z12_q deX;cases x.FHas
 ·exact⟨rfl,Nat.zero_le _⟩
 ·rw [Bool.not_true,cond_false,cond_false,sval_eq h.s h.f];exact⟨rfl,wv_le h.s h.f⟩
theorem inp_is {x:Z5}(h:IOk x):Z19_q x=some (itX x):=by
 have h1:=prX_len h.r;have h2:=(def_is h).2;unfold Z19_q itX;rw [print_is h.r,(def_is h).1];cases x.FHas
 ·rfl
 ·rw [Bool.not_true,cond_false,cond_false,Option.bind_some,catC_ok (by simp only [List.length_cons,List.length_nil]; omega),Option.bind_some,Option.bind_some,catC_ok (by simp only [List.length_append,List.length_cons,List.length_nil]; omega),Option.bind_some]
theorem eqAux (a1:Sl Int):∀(l:List Int) (s:Nat),l.length+s=a1.l.length->Z127_q12 a1 l s=some (if l=a1.l.drop s then Sum.inl () else Sum.inr false)
 | [],s,h=>by
  rw [Z127_q12,if_pos];rw [List.drop_eq_nil_of_le]; simp at h; omega
 | x::r,s,h=>by
  simp only [List.length_cons] at h;have hs:s<a1.l.length:=by omega
  have hg:=List.getElem?_eq_getElem hs;rw [Z127_q12];simp only [Ab.on];rw [hg,Option.bind_some,eqAux a1 r (s+1) (by omega),Q.drop_of hg];generalize a1.l[s]=y;generalize a1.l.drop (s+1)=t;by_cases e:x=y
  ·subst e; simp only [decide_true,Bool.not_true,cond_false,List.cons.injEq,true_and]
  ·simp [e]
theorem same_is (a b:TRef):Z160_q a b=some (saV a b):=by
 have e:Z127_q a.FWraps b.FWraps=some (decide (a.FWraps.l=b.FWraps.l)):=by
  unfold Z127_q;by_cases h:a.FWraps.l.length=b.FWraps.l.length
  ·rw [decide_eq_true (by omega:((a.FWraps.l.length:Nat):Int)=((b.FWraps.l.length:Nat):Int)),Bool.not_true,cond_false,eqAux b.FWraps a.FWraps.l 0 (by omega),Option.bind_some,List.drop_zero];by_cases h2:a.FWraps.l=b.FWraps.l
   ·rw [if_pos h2,decide_eq_true h2]; rfl
   ·rw [if_neg h2,decide_eq_false h2]
  ·rw [decide_eq_false (by omega:¬((a.FWraps.l.length:Nat):Int)=((b.FWraps.l.length:Nat):Int)),decide_eq_false (fun h2=>h (by rw [h2]))]; rfl
 unfold Z160_q saV;rw [e];cases a.FName==b.FName<;>rfl
def inW (n:Bs) (K:Z1) (p:Bs->Bs×Bs) (x y:Z5):List Z2 :=
 (bif !saV x.FType y.FType then [Z2.mk K.Ftyp n (p x.FName).1 (p x.FName).2 (prX x.FType) (prX y.FType)] else []) ++
 (bif (!(x.FHas==y.FHas))||(x.FHas&&!vsX x.FDefault y.FDefault) then [Z2.mk K.Fdef n (p x.FName).1 (p x.FName).2 (deX x) (deX y)] else [])
def inG (n:Bs) (K:Z1) (p:Bs->Bs×Bs) (x:Z5):List Z2:=[Z2.mk K.Fgone n (p x.FName).1 (p x.FName).2 (itX x) []]
def inN (n:Bs) (K:Z1) (p:Bs->Bs×Bs) (x:Z5):List Z2:=[Z2.mk K.Fadd n (p x.FName).1 (p x.FName).2 [] (itX x)]
def inX (n:Bs) (K:Z1) (p:Bs->Bs×Bs) (A B:List Z5):List Z2:=dif Z5.FName (inW n K p) (inG n K p) A B++lon Z5.FName (inN n K p) B A
theorem inputI (l:List Z5) (s:Bs):Z120_q7 s l=(match l.find? (fun t=>t.FName==s) with|some t=>Sum.inr (t,true)|none=>Sum.inl ()):=by
 induction l with
 | nil=>rfl
 | cons a r ih =>
  rw [Z120_q7,List.find?_cons];simp only [Ab.on];cases a.FName==s
  ·exact ih
  ·rfl
theorem inputOf_is (t:Sl Z5) (s:Bs):(∃y,t.l.find? (fun t=>t.FName==s)=some y/\Z120_q t s=(y,true))\/(t.l.find? (fun t=>t.FName==s)=none/\(Z120_q t s).2=false):=by
 unfold Z120_q;simp only [Ab.on,inputI];cases t.l.find? (fun t=>t.FName==s) with
 | none=>exact .inr ⟨rfl,rfl⟩
 | some y=>exact .inl ⟨y,rfl,rfl⟩
theorem inputs26_df {n:Bs}{K:Z1}{p:Bs->Bs×Bs}{a4:Bs->Option (Bs×Bs)}(ha:∀s,a4 s=some (p s)){B:Sl Z5}(hB:∀y∈B.l,IOk y):∀(A:List Z5) (nl:Bool) (s:List Z2),(∀x∈A,IOk x) ->
  DF (Z18_q26m B K a4 A (Z0.mk n ⟨nl,s⟩)) n s (dif Z5.FName (inW n K p) (inG n K p) A B.l)
 | [],nl,s,_=>by rw [Z18_q26m]; exact DF.pure n nl s
 | x::r,nl,s,hA=>by
  have hx:=hA x (.head _);have ih:=fun nl s=>inputs26_df (n:=n) (K:=K) (p:=p) ha hB r nl s fun y hy=>hA y (.tail _ hy);rw [Z18_q26m];simp only [Ab.on,ha,Option.bind_some];unfold dif at ih ⊢;rw [List.flatMap_cons];refine DF.bind (n:=n) ?_ fun nl=>ih nl _;rcases inputOf_is B x.FName with ⟨y,e1,e2⟩|⟨e1,e2⟩
  ·have hy:=hB y (List.mem_of_find?_eq_some e1);rw [e1,e2];simp only [Bool.not_true,cond_false];rw [same_is,Option.bind_some];unfold inW;refine DF.bind (n:=n) ?_ fun nl=>?_
   ·cases saV x.FType y.FType
    ·rw [Bool.not_false,cond_true,cond_true,print_is hx.r,Option.bind_some,print_is hy.r,Option.bind_some];exact(add_df _ _ _ _ _ _ _ _).id
    ·exact DF.pure _ _ _
   ·rw [(vsame hx.s).1];have fin:∀b:Bool,DF (bif b then((Z12_q x).bind fun x51=>(Z12_q y).bind fun x52=>(Z13_q (Z0.mk n ⟨nl,s++bif !saV x.FType y.FType then [Z2.mk K.Ftyp n (p x.FName).1 (p x.FName).2 (prX x.FType) (prX y.FType)] else []⟩) K.Fdef (p x.FName).1 (p x.FName).2 x51 x52).bind fun x53=>some x53) else(some (Z0.mk n ⟨nl,s++bif !saV x.FType y.FType then [Z2.mk K.Ftyp n (p x.FName).1 (p x.FName).2 (prX x.FType) (prX y.FType)] else []⟩))) n (s++bif !saV x.FType y.FType then [Z2.mk K.Ftyp n (p x.FName).1 (p x.FName).2 (prX x.FType) (prX y.FType)] else [])
      (bif b then [Z2.mk K.Fdef n (p x.FName).1 (p x.FName).2 (deX x) (deX y)] else []):=by
     intro b;cases b
     ·exact DF.pure _ _ _
     ·rw [cond_true,cond_true,(def_is hx).1,Option.bind_some,(def_is hy).1,Option.bind_some];exact(add_df _ _ _ _ _ _ _ _).id
    have e3:∀{k:Bool->Option Z0},guardO (!!(x.FHas==y.FHas)&&x.FHas) (some (vsX x.FDefault y.FDefault)) false k=k ((!!(x.FHas==y.FHas)&&x.FHas)&&vsX x.FDefault y.FDefault):=by
     intro k;cases (!!(x.FHas==y.FHas)&&x.FHas)<;>rfl
    rw [e3];refine(fin _).of ?_;cases x.FHas<;>cases y.FHas<;>cases vsX x.FDefault y.FDefault<;>rfl
  ·rw [e1,e2];simp only [Bool.not_false,cond_true];rw [inp_is hx,Option.bind_some];exact(add_df _ _ _ _ _ _ _ _).id
theorem inputs6_df {n:Bs}{K:Z1}{p:Bs->Bs×Bs}{a4:Bs->Option (Bs×Bs)}(ha:∀s,a4 s=some (p s)) (B:Sl Z5):∀(A:List Z5) (nl:Bool) (s:List Z2),(∀x∈A,IOk x) ->
  DF (Z18_q6m B K a4 A (Z0.mk n ⟨nl,s⟩)) n s (lon Z5.FName (inN n K p) A B.l)
 | [],nl,s,_=>by rw [Z18_q6m]; exact DF.pure n nl s
 | x::r,nl,s,hA=>by
  have hx:=hA x (.head _);have ih:=fun nl s=>inputs6_df (n:=n) (K:=K) (p:=p) ha B r nl s fun y hy=>hA y (.tail _ hy);rw [Z18_q6m];simp only [Ab.on,ha,Option.bind_some];unfold lon at ih ⊢;rw [List.flatMap_cons];refine DF.bind (n:=n) ?_ fun nl=>ih nl _;rcases inputOf_is B x.FName with ⟨y,e1,e2⟩|⟨e1,e2⟩
  ·rw [e1,e2]; exact DF.pure _ _ _
  ·rw [e1,e2];simp only [Bool.not_false,cond_true];rw [inp_is hx,Option.bind_some];exact(add_df _ _ _ _ _ _ _ _).id
theorem inputs_df {n:Bs}{K:Z1}{p:Bs->Bs×Bs}{a4:Bs->Option (Bs×Bs)}(ha:∀s,a4 s=some (p s)){A B:Sl Z5}(hA:∀y∈A.l,IOk y) (hB:∀y∈B.l,IOk y) (nl:Bool) (s:List Z2) :
  DF (Z18_qm (Z0.mk n ⟨nl,s⟩) A B K a4) n s (inX n K p A.l B.l):=by
 unfold Z18_qm inX;refine DF.bind (inputs26_df ha hB A.l nl s hA) fun nl=>?_;simp only [Ab.on];exact(inputs6_df ha A B.l nl _ hB).id
end Go.Proofs

namespace Go.Proofs
open Go Go.Ab
structure FOk (f:Z4):Prop where
 r:ROk f.FType
 a:∀x∈f.FArgs.l,IOk x
structure TOk (t:TDef):Prop where
 f:∀x∈t.FFields.l,FOk x
 i:∀x∈t.FInputs.l,IOk x
 m:t.FMembers.l.length<=1048576
 p:SOk t.FImplements
def K7:Z1:=Z1.mk (7:Int) (8:Int) (9:Int) (10:Int)
def K13:Z1:=Z1.mk (13:Int) (14:Int) (15:Int) (16:Int)
def fdW (n:Bs) (x y:Z4):List Z2:=(bif !saV x.FType y.FType then [Z2.mk 6 n x.FName [] (prX x.FType) (prX y.FType)] else [])++inX n K7 (fun s=>(x.FName,s)) x.FArgs.l y.FArgs.l
def fdG (n:Bs) (x:Z4):List Z2:=[Z2.mk 4 n x.FName [] (prX x.FType) []]
def fdN (n:Bs) (x:Z4):List Z2:=[Z2.mk 5 n x.FName [] [] (prX x.FType)]
def fdX (n:Bs) (A B:List Z4):List Z2:=dif Z4.FName (fdW n) (fdG n) A B++lon Z4.FName (fdN n) B A
theorem fieldI (l:List Z4) (s:Bs):Z118_q7 s l=(match l.find? (fun t=>t.FName==s) with|some t=>Sum.inr (t,true)|none=>Sum.inl ()):=by
 induction l with
 | nil=>rfl
 | cons a r ih =>
  rw [Z118_q7,List.find?_cons];simp only [Ab.on];cases a.FName==s
  ·exact ih
  ·rfl
theorem fieldOf_is (t:TDef) (s:Bs):(∃y,t.FFields.l.find? (fun t=>t.FName==s)=some y/\Z118_q t s=(y,true))\/(t.FFields.l.find? (fun t=>t.FName==s)=none/\(Z118_q t s).2=false):=by
 unfold Z118_q;simp only [Ab.on,fieldI];cases t.FFields.l.find? (fun t=>t.FName==s) with
 | none=>exact .inr ⟨rfl,rfl⟩
 | some y=>exact .inl ⟨y,rfl,rfl⟩
theorem fields24_df {n:Bs}{u:TDef}(hB:∀y∈u.FFields.l,FOk y):∀(A:List Z4) (nl:Bool) (s:List Z2),(∀x∈A,FOk x) ->
  DF (Z16_q24 u A (Z0.mk n ⟨nl,s⟩)) n s (dif Z4.FName (fdW n) (fdG n) A u.FFields.l)
 | [],nl,s,_=>by rw [Z16_q24]; exact DF.pure n nl s
 | x::r,nl,s,hA=>by
  have hx:=hA x (.head _);have ih:=fun nl s=>fields24_df (n:=n) hB r nl s fun y hy=>hA y (.tail _ hy);rw [Z16_q24];simp only [Ab.on];unfold dif at ih ⊢;rw [List.flatMap_cons];refine DF.bind (n:=n) ?_ fun nl=>ih nl _;rcases fieldOf_is u x.FName with ⟨y,e1,e2⟩|⟨e1,e2⟩
  ·have hy:=hB y (List.mem_of_find?_eq_some e1);rw [e1,e2];simp only [Bool.not_true,cond_false];rw [same_is,Option.bind_some];unfold fdW;refine DF.bind (n:=n) ?_ fun nl=>?_
   ·cases saV x.FType y.FType
    ·rw [Bool.not_false,cond_true,cond_true,print_is hx.r,Option.bind_some,print_is hy.r,Option.bind_some];exact(add_df _ _ _ _ _ _ _ _).id
    ·exact DF.pure _ _ _
   ·exact(inputs_df (p:=fun s=>(x.FName,s)) (fun _=>rfl) hx.a hy.a nl _).id
  ·rw [e1,e2];simp only [Bool.not_false,cond_true];rw [print_is hx.r,Option.bind_some];exact(add_df _ _ _ _ _ _ _ _).id
theorem fields6_df {n:Bs}(u:TDef):∀(A:List Z4) (nl:Bool) (s:List Z2),(∀x∈A,FOk x) ->
  DF (Z16_q6 u A (Z0.mk n ⟨nl,s⟩)) n s (lon Z4.FName (fdN n) A u.FFields.l)
 | [],nl,s,_=>by rw [Z16_q6]; exact DF.pure n nl s
 | x::r,nl,s,hA=>by
  have hx:=hA x (.head _);have ih:=fun nl s=>fields6_df (n:=n) u r nl s fun y hy=>hA y (.tail _ hy);rw [Z16_q6];simp only [Ab.on];unfold lon at ih ⊢;rw [List.flatMap_cons];refine DF.bind (n:=n) ?_ fun nl=>ih nl _;rcases fieldOf_is u x.FName with ⟨y,e1,e2⟩|⟨e1,e2⟩
  ·rw [e1,e2]; exact DF.pure _ _ _
  ·rw [e1,e2];simp only [Bool.not_false,cond_true];rw [print_is hx.r,Option.bind_some];exact(add_df _ _ _ _ _ _ _ _).id
theorem fields_df {n:Bs}{t u:TDef}(ht:TOk t) (hu:TOk u) (nl:Bool) (s:List Z2):DF (Z16_q (Z0.mk n ⟨nl,s⟩) t u) n s (fdX n t.FFields.l u.FFields.l):=by
 unfold Z16_q fdX;refine DF.bind (fields24_df hu.f t.FFields.l nl s ht.f) fun nl=>?_;simp only [Ab.on];exact(fields6_df t u.FFields.l nl _ hu.f).id
theorem names_loop:∀(l:List Z6) (nl:Bool) (s:List Bs),(nl=true->s=[])->s.length+l.length<=2097152->∃nl',Z23_q8 l ⟨nl,s⟩=some ⟨nl',s++l.map Z6.FName⟩/\(nl'=true->s++l.map Z6.FName=[])
 | [],nl,s,h,_=>⟨nl,by rw [Z23_q8]; simp,by simpa using h⟩
 | x::r,nl,s,h,hl=>by
  simp only [List.length_cons] at hl;rw [Z23_q8];simp only [Ab.on];rw [appC_ok (by decide) (by simp only [List.length_cons,List.length_nil]; omega),Option.bind_some];obtain⟨nl',e1,e2⟩:=names_loop r (nl&&([x.FName]:List Bs).isEmpty) (s++[x.FName]) (fun e=>by simp at e) (by simp only [List.length_append,List.length_cons,List.length_nil]; omega);rw [List.append_assoc] at e1 e2;exact⟨nl',e1,e2⟩
theorem names_is {t:TDef}(h:t.FMembers.l.length<=1048576):∃nl,Z23_q t.FMembers=some ⟨nl,t.FMembers.l.map Z6.FName⟩/\SOk (⟨nl,t.FMembers.l.map Z6.FName⟩:Sl Bs):=by
 obtain⟨nl,e1,e2⟩:=names_loop t.FMembers.l true [] (fun _=>rfl) (by simp only [List.length_nil]; omega);refine⟨nl, ?_, ?_, ?_⟩
 ·unfold Z23_q;rw [show (Sl.nil:Sl Bs)=⟨true,[]⟩ from rfl,e1,Option.bind_some]; rfl
 ·simpa using e2
 ·simp only [List.length_map]; omega
def mis (a b:List Bs):List Bs:=a.filter fun s=>!b.contains s
theorem indexX (s:Bs) (l:List Bs):∀n:Nat,(l.contains s=false->Z128_q6 s l n=Sum.inl ())/\(l.contains s=true->∃m:Nat,Z128_q6 s l n=Sum.inr (m:Int)):=by
 induction l with
 | nil=>intro n; exact⟨fun _=>rfl,fun h=>by simp at h⟩
 | cons a r ih =>
  intro n;rw [Z128_q6];simp only [Ab.on,List.contains_cons];cases s==a
  ·simp only [Bool.false_or,cond_false]; exact ih (n+1)
  ·simp only [Bool.true_or,cond_true]; exact⟨fun h=>by simp at h,fun _=>⟨n,rfl⟩⟩
theorem contains_is (a:Sl Bs) (s:Bs):Z124_q a s=a.l.contains s:=by
 unfold Z124_q Z128_q;simp only [Ab.on];have h:=indexX s a.l 0;cases hc:a.l.contains s
 ·rw [h.1 hc]; rfl
 ·obtain⟨m,e⟩:=h.2 hc;rw [e]; exact decide_eq_true (by simp)
theorem clone_is {a:Sl Bs}(h:SOk a):∃nl,Z123_q a=some ⟨nl,a.l⟩:=by
 unfold Z123_q;cases hn:a.nl
 ·rw [cond_false,appC_ok (by decide) (by have:=h.2; simp only [List.length_nil]; omega),Option.bind_some]; exact⟨_,rfl⟩
 ·rw [cond_true,h.1 hn]; exact⟨true,rfl⟩
theorem missing_is {a:Sl Bs}(h:SOk a) (b:Sl Bs):∃nl,Z21_q a b=some ⟨nl,mis a.l b.l⟩:=by
 obtain⟨nl,e⟩:=clone_is h;unfold Z21_q;rw [e,Option.bind_some,Option.bind_some];refine⟨nl, ?_⟩;have h2:(fun x=>!((fun y0=>Z22 y0 b) x).getD false)=fun s=>!b.l.contains s:=by
  funext x
  show (!((Z22 x b).getD false))=_;rw [Z22_eq,Option.getD_some];unfold Z22_q;simp only [Ab.on,contains_is]
 unfold delL mis;rw [h2]
theorem mem57_df {n:Bs}:∀(l:List Bs) (nl:Bool) (s:List Z2),DF (Z14_q57 l (Z0.mk n ⟨nl,s⟩)) n s (l.map fun x=>Z2.mk 11 n x [] [] [])
 | [],nl,s=>by rw [Z14_q57]; exact DF.pure n nl s
 | x::r,nl,s=>by
  rw [Z14_q57];simp only [Ab.on];exact DF.bind (X:=[_]) (add_df n nl s _ _ _ _ _) fun nl=>mem57_df r nl _
theorem mem44_df {n:Bs}:∀(l:List Bs) (nl:Bool) (s:List Z2),DF (Z14_q44 l (Z0.mk n ⟨nl,s⟩)) n s (l.map fun x=>Z2.mk 12 n x [] [] [])
 | [],nl,s=>by rw [Z14_q44]; exact DF.pure n nl s
 | x::r,nl,s=>by
  rw [Z14_q44];simp only [Ab.on];exact DF.bind (X:=[_]) (add_df n nl s _ _ _ _ _) fun nl=>mem44_df r nl _
theorem mem31_df {n:Bs}:∀(l:List Bs) (nl:Bool) (s:List Z2),DF (Z14_q31 l (Z0.mk n ⟨nl,s⟩)) n s (l.map fun x=>Z2.mk 17 n [] [] x [])
 | [],nl,s=>by rw [Z14_q31]; exact DF.pure n nl s
 | x::r,nl,s=>by
  rw [Z14_q31];simp only [Ab.on];exact DF.bind (X:=[_]) (add_df n nl s _ _ _ _ _) fun nl=>mem31_df r nl _
theorem mem18_df {n:Bs}:∀(l:List Bs) (nl:Bool) (s:List Z2),DF (Z14_q18 l (Z0.mk n ⟨nl,s⟩)) n s (l.map fun x=>Z2.mk 18 n [] [] [] x)
 | [],nl,s=>by rw [Z14_q18]; exact DF.pure n nl s
 | x::r,nl,s=>by
  rw [Z14_q18];simp only [Ab.on];exact DF.bind (X:=[_]) (add_df n nl s _ _ _ _ _) fun nl=>mem18_df r nl _
def nam (t:TDef):List Bs:=t.FMembers.l.map Z6.FName
def dfX (n:Bs) (x y:TDef):List Z2 :=
 fdX n x.FFields.l y.FFields.l++((mis (nam x) (nam y)).map (fun s=>Z2.mk 11 n s [] [] [])++((mis (nam y) (nam x)).map (fun s=>Z2.mk 12 n s [] [] [])++(inX n K13 (fun s=>(s,[])) x.FInputs.l y.FInputs.l ++
  ((mis x.FImplements.l y.FImplements.l).map (fun s=>Z2.mk 17 n [] [] s [])++(mis y.FImplements.l x.FImplements.l).map (fun s=>Z2.mk 18 n [] [] [] s)))))
theorem def_df {n:Bs}{t u:TDef}(ht:TOk t) (hu:TOk u) (nl:Bool) (s:List Z2):DF (Z14_q (Z0.mk n ⟨nl,s⟩) t u) n s (dfX n t u):=by
 obtain⟨n1,e1,o1⟩:=names_is ht.m;obtain⟨n2,e2,o2⟩:=names_is hu.m;obtain⟨n3,e3⟩:=missing_is o1 ⟨n2,u.FMembers.l.map Z6.FName⟩;obtain⟨n4,e4⟩:=missing_is o2 ⟨n1,t.FMembers.l.map Z6.FName⟩;obtain⟨n5,e5⟩:=missing_is ht.p u.FImplements;obtain⟨n6,e6⟩:=missing_is hu.p t.FImplements;unfold Z14_q dfX;refine DF.bind (fields_df ht hu nl s) fun nl=>?_;rw [e1,Option.bind_some,e2,Option.bind_some,e3,Option.bind_some]
 simp only [Ab.on];refine DF.bind (mem57_df _ nl _) fun nl=>?_;rw [e4,Option.bind_some];refine DF.bind (mem44_df _ nl _) fun nl=>?_;refine DF.bind (inputs_df (p:=fun s=>(s,[])) (fun s=>rfl) ht.i hu.i nl _) fun nl=>?_;rw [e5,Option.bind_some];refine DF.bind (mem31_df _ nl _) fun nl=>?_;rw [e6,Option.bind_some];exact(mem18_df _ nl _).id
def tyG (t:TDef):List Z2:=[Z2.mk 1 t.FName [] [] (Z20_q t.FKind) []]
def tyN (t:TDef):List Z2:=[Z2.mk 2 t.FName [] [] [] (Z20_q t.FKind)]
def tyW (x y:TDef):List Z2:=bif !decide (x.FKind=y.FKind) then [Z2.mk 3 x.FName [] [] (Z20_q x.FKind) (Z20_q y.FKind)] else dfX x.FName x y
def diffX (A B:List TDef):List Z2:=lon TDef.FName tyG A B++(prs TDef.FName tyW A B++lon TDef.FName tyN B A)
theorem findI (l:List TDef) (s:Bs):Z119_q7 s l=(match l.find? (fun t=>t.FName==s) with|some t=>Sum.inr (t,true)|none=>Sum.inl ()):=by
 induction l with
 | nil=>rfl
 | cons a r ih =>
  rw [Z119_q7,List.find?_cons];simp only [Ab.on];cases a.FName==s
  ·exact ih
  ·rfl
theorem find_is (d:TDoc) (s:Bs):(∃y,d.FDefs.l.find? (fun t=>t.FName==s)=some y/\Z119_q d s=(y,true))\/(d.FDefs.l.find? (fun t=>t.FName==s)=none/\(Z119_q d s).2=false):=by
 unfold Z119_q;simp only [Ab.on,findI];cases d.FDefs.l.find? (fun t=>t.FName==s) with
 | none=>exact .inr ⟨rfl,rfl⟩
 | some y=>exact .inl ⟨y,rfl,rfl⟩
def DA (o:Option Z0) (s X:List Z2):Prop:=s.length+X.length<=maxD->∃n nl,o=some (Z0.mk n ⟨nl,s++X⟩)
theorem DA.pure (n:Bs) (nl:Bool) (s:List Z2):DA (some (Z0.mk n ⟨nl,s⟩)) s []:=fun _=>⟨n,nl,by simp⟩
theorem DA.bind {o:Option Z0}{f:Z0->Option Z0}{s X Y:List Z2}(h:DA o s X) (hf:∀n nl,DA (f (Z0.mk n ⟨nl,s++X⟩)) (s++X) Y):DA (o.bind f) s (X++Y):=fun hb=>by
 rw [List.length_append] at hb;obtain⟨n,nl,e⟩:=h (by omega);obtain⟨m,nl2,e2⟩:=hf n nl (by rw [List.length_append]; omega);exact⟨m,nl2,by rw [e,Option.bind_some,e2,List.append_assoc]⟩
theorem DF.da {o:Option Z0}{n:Bs}{s X:List Z2}(h:DF o n s X):DA o s X:=fun hb=>by
 obtain⟨nl,e⟩:=h hb;exact⟨n,nl,e⟩
theorem diff56_da (b:TDoc):∀(A:List TDef) (n:Bs) (nl:Bool) (s:List Z2),DA (Z10_q56 b A (Z0.mk n ⟨nl,s⟩)) s (lon TDef.FName tyG A b.FDefs.l)
 | [],n,nl,s=>by rw [Z10_q56]; exact DA.pure n nl s
 | x::r,n,nl,s=>by
  have ih:=fun n nl s=>diff56_da b r n nl s;rw [Z10_q56];simp only [Ab.on];unfold lon at ih ⊢;rw [List.flatMap_cons];refine DA.bind ?_ fun n nl=>ih n nl _;rcases find_is b x.FName with ⟨y,e1,e2⟩|⟨e1,e2⟩
  ·rw [e1,e2]; exact DA.pure _ _ _
  ·rw [e1,e2];exact(add_df _ _ _ _ _ _ _ _).id.da
theorem diff14_da (b:TDoc):∀(A:List TDef) (n:Bs) (nl:Bool) (s:List Z2),DA (Z10_q14 b A (Z0.mk n ⟨nl,s⟩)) s (lon TDef.FName tyN A b.FDefs.l)
 | [],n,nl,s=>by rw [Z10_q14]; exact DA.pure n nl s
 | x::r,n,nl,s=>by
  have ih:=fun n nl s=>diff14_da b r n nl s;rw [Z10_q14];simp only [Ab.on];unfold lon at ih ⊢;rw [List.flatMap_cons];refine DA.bind ?_ fun n nl=>ih n nl _;rcases find_is b x.FName with ⟨y,e1,e2⟩|⟨e1,e2⟩
  ·rw [e1,e2]; exact DA.pure _ _ _
  ·rw [e1,e2];exact(add_df _ _ _ _ _ _ _ _).id.da
theorem diff33_da {b:TDoc}(hb:∀t∈b.FDefs.l,TOk t):∀(A:List TDef) (n:Bs) (nl:Bool) (s:List Z2),(∀t∈A,TOk t)->DA (Z10_q33 b A (Z0.mk n ⟨nl,s⟩)) s (prs TDef.FName tyW A b.FDefs.l)
 | [],n,nl,s,_=>by rw [Z10_q33]; exact DA.pure n nl s
 | x::r,n,nl,s,hA=>by
  have ih:=fun n nl s=>diff33_da hb r n nl s fun y hy=>hA y (.tail _ hy);rw [Z10_q33];simp only [Ab.on];unfold prs at ih ⊢;rw [List.flatMap_cons];refine DA.bind ?_ fun n nl=>ih n nl _;rcases find_is b x.FName with ⟨y,e1,e2⟩|⟨e1,e2⟩
  ·rw [e1,e2];simp only [Bool.not_true,cond_false];unfold tyW;cases decide (x.FKind=y.FKind)
   ·exact(add_df _ _ _ _ _ _ _ _).id.da
   ·exact(def_df (hA x (.head _)) (hb y (List.mem_of_find?_eq_some e1)) nl s).id.da
  ·rw [e1,e2]; exact DA.pure _ _ _
theorem diff_is {a b:TDoc}(ha:∀t∈a.FDefs.l,TOk t) (hb:∀t∈b.FDefs.l,TOk t) (hl:(diffX a.FDefs.l b.FDefs.l).length<=maxD):∃nl,Z10_q a b=some ⟨nl,diffX a.FDefs.l b.FDefs.l⟩:=by
 have h:DA (Option.bind (Z10_q56 b a.FDefs.l (Z0.mk ([]:Bs) (Sl.nil:Sl Z2))) fun y58=>on (y58) fun y6=>Option.bind (Z10_q33 b a.FDefs.l y6) fun y35=>on (y35) fun y8=>Z10_q14 a b.FDefs.l y8) [] (diffX a.FDefs.l b.FDefs.l):=by
  unfold diffX;refine DA.bind (diff56_da b a.FDefs.l [] true []) fun n nl=>?_;simp only [Ab.on];refine DA.bind (diff33_da hb a.FDefs.l n nl _ ha) fun n nl=>?_;exact diff14_da a b.FDefs.l n nl _
 obtain⟨n,nl,e⟩:=h (by simpa using hl);refine⟨nl, ?_⟩;have e':Z10_q a b=(Option.bind (Z10_q56 b a.FDefs.l (Z0.mk ([]:Bs) (Sl.nil:Sl Z2))) fun y58=>on (y58) fun y6=>Option.bind (Z10_q33 b a.FDefs.l y6) fun y35=>on (y35) fun y8=>Z10_q14 a b.FDefs.l y8).bind fun z=>some z.Fout:=by
  unfold Z10_q;simp only [Ab.on,Option.bind_assoc]
 rw [e',e]; rfl
end Go.Proofs

namespace Go.Proofs
open Go Go.Ab
def swK (k:Int):Int:=if k=1\/k=11\/k=13\/k=17\/k=4\/k=7 then k+1 else if k=2\/k=12\/k=14\/k=18\/k=5\/k=8 then k-1 else k
structure KOk (K:Z1):Prop where
 g:swK K.Fgone=K.Fadd
 a:swK K.Fadd=K.Fgone
 t:swK K.Ftyp=K.Ftyp
 d:swK K.Fdef=K.Fdef
structure DDst (t:TDef):Prop where
 f:Dst Z4.FName t.FFields.l
 a:∀x∈t.FFields.l,Dst Z5.FName x.FArgs.l
 i:Dst Z5.FName t.FInputs.l
theorem inX_len (n:Bs) (K:Z1) (p:Bs->Bs×Bs){A B:List Z5}(dA:Dst Z5.FName A) (dB:Dst Z5.FName B):(inX n K p A B).length<=2*A.length+B.length:=by
 have h:=dif_len (w:=inW n K p) (g:=inG n K p) (n:=inN n K p) (f:=fun _=>2) (e:=fun _=>1) dA dB (fun x _ y _=>by
  unfold inW; rw [List.length_append];have h1:(bif !saV x.FType y.FType then [Z2.mk K.Ftyp n (p x.FName).1 (p x.FName).2 (prX x.FType) (prX y.FType)] else []).length<=1:=by cases saV x.FType y.FType<;>simp
  have h2:(bif (!(x.FHas==y.FHas))||(x.FHas&&!vsX x.FDefault y.FDefault) then [Z2.mk K.Fdef n (p x.FName).1 (p x.FName).2 (deX x) (deX y)] else []).length<=1:=by cases ((!(x.FHas==y.FHas))||(x.FHas&&!vsX x.FDefault y.FDefault))<;>simp
  omega) (fun _ _=>by unfold inG; simp) (fun _ _=>by unfold inN; simp)
 have h2:∀(c:Nat) (l:List Z5),(l.map fun _=>c).sum=c*l.length:=by
  intro c l;induction l with
  | nil=>rfl
  | cons a r ih=>simp only [List.map_cons,List.sum_cons,List.length_cons,ih,Nat.mul_succ]; omega
 rw [h2,h2] at h;unfold inX; omega
def fw (f:Z4):Nat:=1+f.FArgs.l.length
def tw (t:TDef):Nat:=(t.FFields.l.map fw).sum+t.FMembers.l.length+t.FInputs.l.length+t.FImplements.l.length
def dw (A:List TDef):Nat:=(A.map fun t=>1+tw t).sum
theorem mulS {α:Type}(c:Nat) (f:α->Nat) (l:List α):(l.map fun x=>c*f x).sum=c*(l.map f).sum:=by
 induction l with
 | nil=>simp
 | cons a r ih=>simp only [List.map_cons,List.sum_cons,ih,Nat.mul_add]
theorem fdX_len (n:Bs){t u:TDef}(dt:DDst t) (du:DDst u):(fdX n t.FFields.l u.FFields.l).length<=2*(t.FFields.l.map fw).sum+(u.FFields.l.map fw).sum:=by
 have h:=dif_len (w:=fdW n) (g:=fdG n) (n:=fdN n) (f:=fun x=>2*fw x) (e:=fw) dt.f du.f (fun x hx y hy=>by
  unfold fdW; rw [List.length_append];have h1:(bif !saV x.FType y.FType then [Z2.mk 6 n x.FName [] (prX x.FType) (prX y.FType)] else []).length<=1:=by cases saV x.FType y.FType<;>simp
  have h2:=inX_len n K7 (fun s=>(x.FName,s)) (dt.a x hx) (du.a y hy);unfold fw; omega) (fun _ _=>by unfold fdG fw; simp; omega) (fun _ _=>by unfold fdN fw; simp)
 rw [mulS] at h;unfold fdX; omega
theorem mis_len (a b:List Bs):(mis a b).length<=a.length:=List.length_filter_le _ _
theorem dfX_len (n:Bs){t u:TDef}(dt:DDst t) (du:DDst u):(dfX n t u).length<=2*tw t+tw u:=by
 have h1:=fdX_len n dt du;have h2:=inX_len n K13 (fun s=>(s,[])) dt.i du.i;have h3:=mis_len (nam t) (nam u);have h4:=mis_len (nam u) (nam t);have h5:=mis_len t.FImplements.l u.FImplements.l;have h6:=mis_len u.FImplements.l t.FImplements.l;have h7:(nam t).length=t.FMembers.l.length:=List.length_map _;have h8:(nam u).length=u.FMembers.l.length:=List.length_map _;unfold dfX tw;simp only [List.length_append,List.length_map]
 omega
theorem diffX_len {A B:List TDef}(dA:Dst TDef.FName A) (dB:Dst TDef.FName B) (eA:∀t∈A,DDst t) (eB:∀t∈B,DDst t):(diffX A B).length<=2*dw A+dw B:=by
 have h:=dif_len (w:=tyW) (g:=tyG) (n:=tyN) (f:=fun x=>2*(1+tw x)) (e:=fun x=>1+tw x) dA dB (fun x hx y hy=>by
  unfold tyW;have:=dfX_len x.FName (eA x hx) (eB y hy);cases decide (x.FKind=y.FKind)
  ·simp; omega
  ·simp only [Bool.not_true,cond_false]; omega) (fun _ _=>by unfold tyG; simp; omega) (fun _ _=>by unfold tyN; simp)
 rw [mulS] at h;have h2:=(dif_split TDef.FName tyW tyG A B).length_eq;unfold diffX dw;rw [List.length_append] at h h2;simp only [List.length_append];omega
end Go.Proofs

namespace Go.Proofs
open Go Go.Ab
theorem Gr.two {o:Option Int}{k:Int->Option Int}{s:Int}{a b c:Nat}(h:Gr o 0 a) (hs:0<=s/\s+a<=1099511627776) (hc:a+b<=c) (hk:∀r,s<=r->r<=s+a->Gr (k r) r b):Gr (o.bind fun x=>(addC s x).bind k) s c:=by
 obtain⟨x,e,h1,h2⟩:=h;rw [e,Option.bind_some];exact Gr.bind (a:=a) (b:=b) (Gr.add (by omega) hs) hc hk
theorem args_w (a1:Int) (h7:TDir):∀(l:List TArg) (s:Int),(∀x∈l,x.sz<=1048576)->0<=s->s+(l.map TArg.sz).sum<=1073741824->Gr (Z73_q19 a1 h7 l s) s (l.map TArg.sz).sum
 | [],s,_,_,_=>Gr.refl _ _
 | a::r,s,hx,h0,h=>by
  simp only [List.map_cons,List.sum_cons] at h ⊢;have hd:=a.sz_def;have hp:=Bs.sz_pos a.FName;have hxa:=hx a (by simp);rw [Z73_q19];cases decide (s<=a1) with
  | false=>exact Gr.refl _ _
  | true =>
   simp only [cond_true,Ab.on];refine Gr.bind (a:=1) (b:=a.FValue.sz+(r.map TArg.sz).sum) (Gr.add (by omega) (by omega)) (by omega) fun x h1 h2=>?_;exact Gr.two (b:=(r.map TArg.sz).sum) (value_W a1 a.FValue (by omega)) (by omega) (by omega) fun y h3 h4=>args_w a1 h7 r y (fun z hz=>hx z (by simp [hz])) (by omega) (by omega)
theorem dirs_loop_w (a1:Int):∀(l:List TDir) (s:Int),(∀x∈l,x.sz<=1048576)->0<=s->s+(l.map TDir.sz).sum<=1073741824->Gr (Z73_q7 a1 l s) s (l.map TDir.sz).sum
 | [],s,_,_,_=>Gr.refl _ _
 | a::r,s,hx,h0,h=>by
  simp only [List.map_cons,List.sum_cons] at h ⊢;have hd:=a.sz_def;have hp:=Bs.sz_pos a.FName;have hi:Sl.sz TArg.sz a.FArgs=1+(a.FArgs.l.map TArg.sz).sum:=rfl;have hxa:=hx a (by simp);rw [Z73_q7];cases decide (s<=a1) with
  | false=>exact Gr.refl _ _
  | true =>
   simp only [cond_true,Ab.on];refine Gr.bind (a:=1) (b:=(a.FArgs.l.map TArg.sz).sum+(r.map TDir.sz).sum) (Gr.add (by omega) (by omega)) (by omega) fun x h1 h2=>?_;exact Gr.bind (b:=(r.map TDir.sz).sum) (args_w a1 a a.FArgs.l x (fun z hz=>by have:=TDir.arg_le hz; omega) (by omega) (by omega)) (by omega) fun y h3 h4=>dirs_loop_w a1 r y (fun z hz=>hx z (by simp [hz])) (by omega) (by omega)
theorem dirs_w (a1:Int) (s:Sl TDir) (h:Sl.sz TDir.sz s<=1048576):Gr (Z73_q s a1) 0 (Sl.sz TDir.sz s):=by
 have hi:Sl.sz TDir.sz s=1+(s.l.map TDir.sz).sum:=rfl;obtain⟨r,e,h1,h2⟩:=dirs_loop_w a1 s.l 0 (fun x hx=>by have:=Sl.mem_le (f:=TDir.sz) hx; omega) (by omega) (by omega);unfold Z73_q; rw [e]; exact⟨r,rfl,h1,by omega⟩
def Gw (o:Option Int) (s:Int) (b w:Nat):Prop:=∃r,o=some r/\s<=r/\r<=s+b/\(r<=600->s+w<=r)
theorem Gr.w {o:Option Int}{s:Int}{b:Nat}(h:Gr o s b):Gw o s b 0:=by
 obtain⟨r,e,h1,h2⟩:=h;exact⟨r,e,h1,h2,fun _=>by omega⟩
theorem Gw.none (s:Int) (b:Nat):Gw (some s) s b 0:=⟨s,rfl,by omega,by omega,fun _=>by omega⟩
theorem Gw.stop {s:Int}(b w:Nat) (h:¬s<=600):Gw (some s) s b w:=⟨s,rfl,by omega,by omega,fun h2=>absurd h2 h⟩
theorem Gw.bind {o:Option Int}{k:Int->Option Int}{s:Int}{a b c w1 w2 w:Nat}(h:Gw o s a w1) (hc:a+b<=c) (hw:w=w1+w2) (hk:∀r,s<=r->r<=s+a->Gw (k r) r b w2):Gw (o.bind k) s c w:=by
 obtain⟨r,e,h1,h2,h3⟩:=h;obtain⟨r2,e2,h4,h5,h6⟩:=hk r h1 h2;exact⟨r2,by rw [e]; exact e2,by omega,by omega,fun h=>by have:=h3 (by omega); have:=h6 h; omega⟩
theorem Gw.add {x s:Int}{b w:Nat}(hx:(w:Int)<=x/\x<=b) (hs:0<=s/\s+b<=1099511627776):Gw (addC s x) s b w:=⟨s+x,addC_ok (by omega),by omega,by omega,fun _=>by omega⟩
theorem Gw.two {o:Option Int}{k:Int->Option Int}{s:Int}{a b c w1 w2 w:Nat}(h:Gw o 0 a w1) (hs:0<=s/\s+a<=1099511627776) (hc:a+b<=c) (hw:w=w1+w2) (hk:∀r,s<=r->r<=s+a->Gw (k r) r b w2):Gw (o.bind fun x=>(addC s x).bind k) s c w:=by
 obtain⟨x,e,h1,h2,h3⟩:=h;rw [e,Option.bind_some,addC_ok (by omega),Option.bind_some];obtain⟨r2,e2,h4,h5,h6⟩:=hk (s+x) (by omega) (by omega);exact⟨r2,e2,by omega,by omega,fun h=>by have:=h3 (by omega); have:=h6 h; omega⟩
theorem inputs_loop_g:∀(l:List Z5) (s:Int),(∀x∈l,x.sz<=1048576)->0<=s->s+(l.map Z5.sz).sum<=1073741824->Gw (Z74_q7 600 l s) s (l.map Z5.sz).sum l.length
 | [],s,_,_,_=>Gw.none _ _
 | a::r,s,hx,h0,h=>by
  simp only [List.map_cons,List.sum_cons] at h ⊢;have hd:=a.sz_def;have hp:=Bs.sz_pos a.FName;have hw:=TRef.wraps_le a.FType;have hxa:=hx a (by simp);rw [Z74_q7];by_cases hs:s<=600
  ·rw [decide_eq_true hs];simp only [cond_true,Ab.on];refine Gw.bind (a:=1) (b:=a.FType.FWraps.l.length+a.FDefault.sz+Sl.sz TDir.sz a.FDirs+(r.map Z5.sz).sum) (w1:=1) (w2:=r.length) (Gw.add (by omega) (by omega)) (by omega) (by simp; omega) fun x h1 h2=>?_;refine Gw.bind (a:=a.FType.FWraps.l.length) (b:=a.FDefault.sz+Sl.sz TDir.sz a.FDirs+(r.map Z5.sz).sum) (w1:=0) (w2:=r.length) (Gw.add (by omega) (by omega)) (by omega) (by omega) fun y h3 h4=>?_
   refine Gw.two (b:=Sl.sz TDir.sz a.FDirs+(r.map Z5.sz).sum) (w2:=r.length) (value_W 600 a.FDefault (by omega)).w (by omega) (by omega) (by omega) fun z h5 h6=>?_;exact Gw.two (b:=(r.map Z5.sz).sum) (w2:=r.length) (dirs_w 600 a.FDirs (by omega)).w (by omega) (by omega) (by omega) fun q h7 h8=>inputs_loop_g r q (fun z hz=>hx z (by simp [hz])) (by omega) (by omega)
  ·rw [decide_eq_false hs]; exact Gw.stop _ _ hs
theorem inputs_g (s:Sl Z5) (h:Sl.sz Z5.sz s<=1048576):Gw (Z74_q s 600) 0 (Sl.sz Z5.sz s) s.l.length:=by
 have hi:Sl.sz Z5.sz s=1+(s.l.map Z5.sz).sum:=rfl;obtain⟨r,e,h1,h2,h3⟩:=inputs_loop_g s.l 0 (fun x hx=>by have:=Sl.mem_le (f:=Z5.sz) hx; omega) (by omega) (by omega);unfold Z74_q; rw [e]; exact⟨r,rfl,h1,by omega,h3⟩
theorem fields_g:∀(l:List Z4) (s:Int),(∀x∈l,x.sz<=1048576)->0<=s->s+(l.map Z4.sz).sum<=1073741824->Gw (Z65_q41 600 l s) s (l.map Z4.sz).sum (l.map fw).sum
 | [],s,_,_,_=>Gw.none _ _
 | a::r,s,hx,h0,h=>by
  simp only [List.map_cons,List.sum_cons] at h ⊢;have hd:=a.sz_def;have hp:=Bs.sz_pos a.FName;have hw:=TRef.wraps_le a.FType;have hxa:=hx a (by simp);have hfw:fw a=1+a.FArgs.l.length:=rfl;rw [Z65_q41];by_cases hs:s<=600
  ·rw [decide_eq_true hs];simp only [cond_true,Ab.on];refine Gw.bind (a:=1) (b:=a.FType.FWraps.l.length+Sl.sz Z5.sz a.FArgs+Sl.sz TDir.sz a.FDirs+(r.map Z4.sz).sum) (w1:=1) (w2:=a.FArgs.l.length+(r.map fw).sum) (Gw.add (by omega) (by omega)) (by omega) (by omega) fun x h1 h2=>?_;refine Gw.bind (a:=a.FType.FWraps.l.length) (b:=Sl.sz Z5.sz a.FArgs+Sl.sz TDir.sz a.FDirs+(r.map Z4.sz).sum) (w1:=0) (w2:=a.FArgs.l.length+(r.map fw).sum) (Gw.add (by omega) (by omega)) (by omega) (by omega) fun y h3 h4=>?_
   refine Gw.two (b:=Sl.sz TDir.sz a.FDirs+(r.map Z4.sz).sum) (w2:=(r.map fw).sum) (inputs_g a.FArgs (by omega)) (by omega) (by omega) (by omega) fun z h5 h6=>?_;exact Gw.two (b:=(r.map Z4.sz).sum) (w2:=(r.map fw).sum) (dirs_w 600 a.FDirs (by omega)).w (by omega) (by omega) (by omega) fun q h7 h8=>fields_g r q (fun z hz=>hx z (by simp [hz])) (by omega) (by omega)
  ·rw [decide_eq_false hs]; exact Gw.stop _ _ hs
theorem members_g:∀(l:List Z6) (s:Int),(∀x∈l,x.sz<=1048576)->0<=s->s+(l.map Z6.sz).sum<=1073741824->Gw (Z65_q28 600 l s) s (l.map Z6.sz).sum l.length
 | [],s,_,_,_=>Gw.none _ _
 | a::r,s,hx,h0,h=>by
  simp only [List.map_cons,List.sum_cons] at h ⊢;have hd:=a.sz_def;have hp:=Bs.sz_pos a.FName;have hxa:=hx a (by simp);rw [Z65_q28];by_cases hs:s<=600
  ·rw [decide_eq_true hs];simp only [cond_true,Ab.on];refine Gw.bind (a:=1) (b:=Sl.sz TDir.sz a.FDirs+(r.map Z6.sz).sum) (w1:=1) (w2:=r.length) (Gw.add (by omega) (by omega)) (by omega) (by simp; omega) fun x h1 h2=>?_;exact Gw.two (b:=(r.map Z6.sz).sum) (w2:=r.length) (dirs_w 600 a.FDirs (by omega)).w (by omega) (by omega) (by omega) fun q h7 h8=>members_g r q (fun z hz=>hx z (by simp [hz])) (by omega) (by omega)
  ·rw [decide_eq_false hs]; exact Gw.stop _ _ hs
theorem defs_g:∀(l:List TDef) (s:Int),(∀x∈l,x.sz<=1048576)->0<=s->s+(l.map TDef.sz).sum<=1073741824->Gw (Z65_q8 600 l s) s (l.map TDef.sz).sum (l.map tw).sum
 | [],s,_,_,_=>Gw.none _ _
 | a::r,s,hx,h0,h=>by
  simp only [List.map_cons,List.sum_cons] at h ⊢;have hd:=a.sz_def;have hp:=Bs.sz_pos a.FName;have h1:=Sl.len_le (f:=Bs.sz) a.FImplements (fun x=>Bs.sz_pos x);have hf:Sl.sz Z4.sz a.FFields=1+(a.FFields.l.map Z4.sz).sum:=rfl;have hm:Sl.sz Z6.sz a.FMembers=1+(a.FMembers.l.map Z6.sz).sum:=rfl;have hxa:=hx a (by simp);have htw:tw a=(a.FFields.l.map fw).sum+a.FMembers.l.length+a.FInputs.l.length+a.FImplements.l.length:=rfl
  rw [Z65_q8];by_cases hs:s<=600
  ·rw [decide_eq_true hs];simp only [cond_true,Ab.on];refine Gw.bind (a:=a.FImplements.l.length) (b:=Sl.sz TDir.sz a.FDirs+Sl.sz Z5.sz a.FInputs+(a.FFields.l.map Z4.sz).sum+(a.FMembers.l.map Z6.sz).sum+(r.map TDef.sz).sum) (w1:=a.FImplements.l.length) (w2:=a.FInputs.l.length+(a.FFields.l.map fw).sum+a.FMembers.l.length+(r.map tw).sum) (Gw.add (by omega) (by omega)) (by omega) (by omega) fun x h1 h2=>?_
   refine Gw.two (b:=Sl.sz Z5.sz a.FInputs+(a.FFields.l.map Z4.sz).sum+(a.FMembers.l.map Z6.sz).sum+(r.map TDef.sz).sum) (w2:=a.FInputs.l.length+(a.FFields.l.map fw).sum+a.FMembers.l.length+(r.map tw).sum) (dirs_w 600 a.FDirs (by omega)).w (by omega) (by omega) (by omega) fun y h3 h4=>?_;refine Gw.two (b:=(a.FFields.l.map Z4.sz).sum+(a.FMembers.l.map Z6.sz).sum+(r.map TDef.sz).sum) (w2:=(a.FFields.l.map fw).sum+a.FMembers.l.length+(r.map tw).sum) (inputs_g a.FInputs (by omega)) (by omega) (by omega) (by omega) fun z h5 h6=>?_
   refine Gw.bind (b:=(a.FMembers.l.map Z6.sz).sum+(r.map TDef.sz).sum) (w2:=a.FMembers.l.length+(r.map tw).sum) (fields_g a.FFields.l z (fun x hx=>by have:=Sl.mem_le (f:=Z4.sz) hx; omega) (by omega) (by omega)) (by omega) (by omega) fun p h7 h8=>?_;exact Gw.bind (b:=(r.map TDef.sz).sum) (w2:=(r.map tw).sum) (members_g a.FMembers.l p (fun x hx=>by have:=Sl.mem_le (f:=Z6.sz) hx; omega) (by omega) (by omega)) (by omega) rfl fun q h9 h10=>defs_g r q (fun z hz=>hx z (by simp [hz])) (by omega) (by omega)
  ·rw [decide_eq_false hs]; exact Gw.stop _ _ hs
theorem dw_eq (l:List TDef):dw l=l.length+(l.map tw).sum:=by
 unfold dw;induction l with
 | nil=>rfl
 | cons a r ih=>simp only [List.map_cons,List.sum_cons,List.length_cons,ih]; omega
theorem doc_g (d:TDoc) (h:d.sz<=1048576):∃r,Z65_q d 600=some r/\(r<=600->dw d.FDefs.l<=600):=by
 have hd:=d.sz_def;have hi:Sl.sz TDef.sz d.FDefs=1+(d.FDefs.l.map TDef.sz).sum:=rfl;have hl:=Sl.len_le (f:=TDef.sz) d.FDefs (fun x=>x.pos);obtain⟨r,e,h1,h2,h3⟩:=defs_g d.FDefs.l (d.FDefs.l.length:Int) (fun x hx=>by have:=TDoc.def_le hx; omega) (by omega) (by omega);unfold Z65_q; rw [e]; exact⟨r,rfl,fun hr=>by have:=h3 hr; rw [dw_eq]; omega⟩
end Go.Proofs

namespace Go.Proofs
open Go Go.Ab
def Pf (o:Option (Sl Z3)) (s:List Z3) (P:Prop):Prop:=∀r,o=some r->(s≠[]->r.l≠[])/\(r.l=[]->P)
theorem Pf.pure {u:Sl Z3}{P:Prop}(h:P):Pf (some u) u.l P:=fun r e=>by cases e; exact⟨fun h=>h,fun _=>h⟩
theorem Pf.imp {o:Option (Sl Z3)}{s:List Z3}{P Q:Prop}(h:Pf o s P) (hi:P->Q):Pf o s Q:=fun r e=>⟨(h r e).1,fun h2=>hi ((h r e).2 h2)⟩
theorem Pf.none (s:List Z3) (P:Prop):Pf Option.none s P:=fun r e=>(by cases e)
theorem Pf.bind {o:Option (Sl Z3)}{f:Sl Z3->Option (Sl Z3)}{s:List Z3}{P Q:Prop}(h:Pf o s P) (hf:∀u:Sl Z3,Pf (f u) u.l Q):Pf (o.bind f) s (P/\Q):=fun r e=>by
 cases ho:o with
 | none=>rw [ho] at e; cases e
 | some u =>
  rw [ho] at e;have h1:=h u ho;have h2:=hf u r e;refine⟨fun hs=>h2.1 (h1.1 hs),fun hr=>⟨h1.2 ?_,h2.2 hr⟩⟩;exact Classical.byContradiction fun hc=>h2.1 hc hr
theorem Pf.skip {α:Type}{o:Option α}{f:α->Option (Sl Z3)}{s:List Z3}{Q:Prop}(hf:∀u,o=some u->Pf (f u) s Q):Pf (o.bind f) s Q:=fun r e=>by
 cases ho:o with
 | none=>rw [ho] at e; cases e
 | some u=>rw [ho] at e; exact hf u ho r e
theorem Pf.guard {α:Type}{c:Bool}{o:Option α}{d:α}{f:α->Option (Sl Z3)}{s:List Z3}{Q:Prop}(hf:∀u,(c=true->o=some u)->Pf (f u) s Q):Pf (guardO c o d f) s Q:=by
 cases c
 ·exact hf d fun h=>(by cases h)
 ·intro r e;cases ho:o with
  | none=>rw [ho] at e; cases e
  | some u=>rw [ho] at e; exact hf u (fun _=>ho) r e
theorem app_l {α:Type}{z:Nat}{s r u:Sl α}(h:appC z s r=some u):u.l=s.l++r.l:=by
 unfold appC at h
 split at h
 ·cases h; rfl
 ·cases h
theorem Pf.add (u:Sl Z3) (b:Bool) (x:Z3) (P:Prop):Pf (appC 24 u ⟨b,[x]⟩) u.l P:=fun r e=>by
 have:=app_l e;rw [this];exact⟨fun _=>by simp,fun h=>by simp at h⟩
theorem Pf.id {o:Option (Sl Z3)}{s:List Z3}{P:Prop}(h:Pf o s P):Pf (o.bind fun x=>some x) s P:=fun r e=>by
 cases ho:o with
 | none=>rw [ho] at e; cases e
 | some u=>rw [ho] at e; cases e; exact h _ ho
theorem Pf.app {o:Option (Sl Z3)}{P:Prop}(s:Sl Z3) (h:Pf o [] P):Pf (o.bind fun x=>appC 24 s x) s.l P:=fun r e=>by
 cases ho:o with
 | none=>rw [ho] at e; cases e
 | some u =>
  rw [ho] at e;have h1:=app_l e;rw [h1];exact⟨fun hs=>by simp [hs],fun h2=>(h u ho).2 (List.append_eq_nil_iff.1 h2).2⟩
theorem Pf.appB {o:Option (Sl Z3)}{k:Sl Z3->Option (Sl Z3)}{P Q:Prop}(s:Sl Z3) (h:Pf o [] P) (hk:∀u:Sl Z3,Pf (k u) u.l Q):Pf (o.bind fun x=>(appC 24 s x).bind k) s.l (P/\Q):=by
 have:=(Pf.app s h).bind hk
 rwa [Option.bind_assoc] at this
def Gn {α:Type}(key:α->Bs) (l:List α) (j:Nat):Prop:=∀x,l[j]?=some x->∀m y,m<j->l[m]?=some y->key y≠key x
theorem dst_of {α:Type}{key:α->Bs}{l:List α}(h:∀j,Gn key l j):Dst key l:=by
 unfold Dst;rw [List.pairwise_iff_getElem];intro i j hi hj hij;exact h j _ (List.getElem?_eq_getElem hj) i _ hij (List.getElem?_eq_getElem hi)
theorem gn_any {α:Type}{key:α->Bs}{l:List α}{j:Nat}(h:∀x,l[j]?=some x->((l.take j).any fun y=>key y==key x)=false):Gn key l j:=fun x hx m y hm hy e=>by
 have h1:=h x hx;rw [List.any_eq_false] at h1;have h2:y∈l.take j:=by
  have:(l.take j)[m]?=some y:=by rw [List.getElem?_take_of_lt hm]; exact hy
  exact List.mem_of_getElem? this
 exact h1 y h2 (beq_iff_eq.mpr e)
theorem names_pf (n:Bs) (bad before:Bool) (a:Bs):Pf (Z93_q n bad before a) [] (before=false):=by
 unfold Z93_q;refine Pf.guard fun u _=>?_;refine(Pf.bind (P:=True) (Q:=before=false) ?_ fun u=>?_).imp And.right
 ·cases (bad||!u)
  ·exact Pf.pure (u:=(Sl.nil:Sl Z3)) trivial
  ·exact(Pf.add (Sl.nil:Sl Z3) _ _ _).id
 ·refine Pf.id ?_;cases before
  ·exact Pf.pure rfl
  ·exact(Pf.add _ _ _ _).id
theorem input6_any (n:Bs):∀l:List Z5,(match Z80_q6 n l with|.inl _=>false|.inr e=>e.2)=l.any fun y=>y.FName==n
 | []=>rfl
 | a::r=>by
  rw [Z80_q6,List.any_cons];simp only [Ab.on];cases a.FName==n
  ·exact input6_any n r
  ·rfl
theorem input_any (s:Sl Z5) (n:Bs):(Z80_q s n).2=s.l.any fun y=>y.FName==n:=by
 rw [<- input6_any];unfold Z80_q;simp only [Ab.on];cases Z80_q6 n s.l<;>rfl
theorem field6_any (n:Bs):∀l:List Z4,(match Z78_q6 n l with|.inl _=>false|.inr e=>e.2)=l.any fun y=>y.FName==n
 | []=>rfl
 | a::r=>by
  rw [Z78_q6,List.any_cons];simp only [Ab.on];cases a.FName==n
  ·exact field6_any n r
  ·rfl
theorem field_any (t:TDef) (n:Bs):(Z78_q t n).2=t.FFields.l.any fun y=>y.FName==n:=by
 rw [<- field6_any];unfold Z78_q;simp only [Ab.on];cases Z78_q6 n t.FFields.l<;>rfl
theorem drop_hd {α:Type}{l r:List α}{i:Nat}{x:α}(h:l.drop i=x::r):l[i]?=some x/\l.drop (i+1)=r:=by
 have hi:i<l.length:=by
  rcases Nat.lt_or_ge i l.length with c|c
  ·exact c
  ·rw [List.drop_of_length_le c] at h; cases h
 rw [List.drop_eq_getElem_cons hi] at h;simp only [List.cons.injEq] at h;exact⟨by rw [List.getElem?_eq_getElem hi,h.1],h.2⟩
theorem drop_nil_get {α:Type}{l:List α}{i j:Nat}(h:l.drop i=[]) (hj:i<=j):l[j]?=none:=List.getElem?_eq_none (by have:=congrArg List.length h; simp at this; omega)
theorem inputs_pf (d:TDoc) (a1:Sl Z5) (p q:Bs):∀(l:List Z5) (i:Nat) (s:Sl Z3),a1.l.drop i=l->Pf (Z90_q7 d a1 p q l i s) s.l (∀j,i<=j->Gn Z5.FName a1.l j)
 | [],i,s,h=>by
  rw [Z90_q7];exact Pf.pure fun j hj x hx=>by rw [drop_nil_get h hj] at hx; cases hx
 | a::r,i,s,h=>by
  obtain⟨h1,h2⟩:=drop_hd h;rw [Z90_q7];simp only [Ab.on];refine Pf.skip fun t _=>Pf.skip fun t _=>?_;refine(Pf.appB (Q:=∀j,i+1<=j->Gn Z5.FName a1.l j) s (names_pf _ _ _ _) fun u=>?_).imp fun⟨z1,z2⟩ j hj=>?_
  ·refine(Pf.bind (P:=True) ?_ fun u=>inputs_pf d a1 p q r (i+1) u h2).imp And.right;cases Z91_q d a.FType.FName
   ·exact(Pf.add _ _ _ _).id
   ·cases Z81_q d a.FType.FName
    ·exact(Pf.add _ _ _ _).id
    ·exact Pf.pure trivial
  ·rcases Nat.lt_or_ge i j with c|c
   ·exact z2 j c
   ·obtain rfl:j=i:=by omega
    rw [input_any] at z1;exact gn_any fun x hx=>by rw [h1] at hx; cases hx; exact z1
theorem inputs_dst (d:TDoc) (a1:Sl Z5) (p q:Bs):Pf (Z90_q d a1 p q) [] (Dst Z5.FName a1.l):=by
 unfold Z90_q;exact((inputs_pf d a1 p q a1.l 0 Sl.nil rfl).imp fun h=>dst_of fun j=>h j (Nat.zero_le j)).id
theorem fields_pf (d:TDoc) (t:TDef):∀(l:List Z4) (i:Nat) (s:Sl Z3),t.FFields.l.drop i=l->Pf (Z88_q7 d t l i s) s.l (∀j,i<=j->Gn Z4.FName t.FFields.l j/\∀x,t.FFields.l[j]?=some x->Dst Z5.FName x.FArgs.l)
 | [],i,s,h=>by
  rw [Z88_q7];exact Pf.pure fun j hj=>⟨fun x hx=>(by rw [drop_nil_get h hj] at hx; cases hx),fun x hx=>(by rw [drop_nil_get h hj] at hx; cases hx)⟩
 | a::r,i,s,h=>by
  obtain⟨h1,h2⟩:=drop_hd h;rw [Z88_q7];simp only [Ab.on];refine Pf.skip fun t1 _=>Pf.skip fun t2 _=>?_;refine(Pf.appB (Q:=Dst Z5.FName a.FArgs.l/\∀j,i+1<=j->Gn Z4.FName t.FFields.l j/\∀x,t.FFields.l[j]?=some x->Dst Z5.FName x.FArgs.l) s (names_pf _ _ _ _) fun u=>?_).imp fun⟨z1,z2,z3⟩ j hj=>?_
  ·refine(Pf.bind (P:=True) ?_ fun u=>?_).imp And.right
   ·cases Z91_q d a.FType.FName
    ·exact(Pf.add _ _ _ _).id
    ·rw [Bool.not_true,cond_false];generalize (((!Z83_q a.FType.FName)&&(Z79_q d a.FType.FName).2)&&(decide ((Z79_q d a.FType.FName).1.FKind=(5:Int))))=c;cases c
     ·exact Pf.pure trivial
     ·exact(Pf.add _ _ _ _).id
   ·refine Pf.skip fun t3 _=>?_;exact Pf.appB u (inputs_dst _ _ _ _) fun u=>fields_pf d t r (i+1) u h2
  ·rcases Nat.lt_or_ge i j with c|c
   ·exact z3 j c
   ·obtain rfl:j=i:=by omega
    rw [field_any] at z1;exact⟨gn_any fun x hx=>(by rw [h1] at hx; cases hx; exact z1),fun x hx=>(by rw [h1] at hx; cases hx; exact z2)⟩
theorem fields_dst (d:TDoc) (t:TDef):Pf (Z88_q d t) [] (Dst Z4.FName t.FFields.l/\∀x∈t.FFields.l,Dst Z5.FName x.FArgs.l):=by
 unfold Z88_q;refine((fields_pf d t t.FFields.l 0 Sl.nil rfl).imp fun h=>⟨dst_of fun j=>(h j (Nat.zero_le j)).1,fun x hx=>?_⟩).id;obtain⟨j,hj,rfl⟩:=List.mem_iff_getElem.1 hx;exact(h j (Nat.zero_le j)).2 _ (List.getElem?_eq_getElem hj)
theorem addC_l {a b c:Int}(h:addC a b=some c):c=a+b:=by
 unfold addC at h
 split at h
 ·cases h; rfl
 ·cases h
theorem j13_pf (d:TDoc) (t:TDef) (s:Sl Z3):Pf (Z95_j13 d t s) s.l True:=by
 unfold Z95_j13 Z95_j15;refine Pf.skip fun c _=>?_;cases c
 ·exact Pf.pure trivial
 ·exact(Pf.add _ _ _ _).id
theorem j10_pf (d:TDoc) (t:TDef) (s:Sl Z3):Pf (Z95_j10 d t s) s.l True:=by
 unfold Z95_j10;generalize (((((((t.FName==([81,117,101,114,121]:Bs)))||((t.FName==([77,117,116,97,116,105,111,110]:Bs))))||((t.FName==([83,117,98,115,99,114,105,112,116,105,111,110]:Bs))))&&(!decide (t.FKind=(1:Int))))||(decide (t.FKind<(1:Int))))||(decide ((5:Int)<t.FKind)))=c;cases c
 ·exact j13_pf d t s
 ·exact(Pf.bind (P:=True) (Pf.add _ _ _ _) fun u=>j13_pf d t u).imp fun _=>trivial
theorem j6_pf (d:TDoc) (t:TDef) (b:Bool):Pf (Z95_j6 d t b) [] (b=false):=by
 unfold Z95_j6;rw [Z93_eq];refine(Pf.bind (Q:=True) (names_pf _ _ _ _) fun u=>?_).imp And.left;refine Pf.skip fun c _=>?_;cases c
 ·exact j10_pf d t u
 ·exact(Pf.bind (P:=True) (Pf.add _ _ _ _) fun u=>j10_pf d t u).imp fun _=>trivial
theorem l30_pf (d:TDoc) (t:TDef) (i:Nat):∀(n k:Nat) (b:Bool),Pf (Z95_l30 d (i:Int) t n b (k:Int)) [] (b=false/\∀m y,k<=m->m<i->d.FDefs.l[m]?=some y->y.FName≠t.FName)
 | 0,k,b=>by rw [Z95_l30]; exact Pf.none _ _
 | n+1,k,b=>by
  rw [Z95_l30];by_cases hk:k<i
  ·rw [decide_eq_true (by omega:((k:Nat):Int)<((i:Nat):Int)),cond_true];refine Pf.guard fun x hx=>Pf.skip fun k' hk'=>?_;have e:k'=((k+1:Nat):Int):=by rw [addC_l hk']; omega
   rw [e];refine(l30_pf d t i n (k+1) (b||x.FName==t.FName)).imp fun⟨h1,h2⟩=>?_;rw [Bool.or_eq_false_iff] at h1;refine⟨h1.1,fun m y m1 m2 hy=>?_⟩;rcases Nat.lt_or_ge k m with c|c
   ·exact h2 m y c m2 hy
   ·obtain rfl:m=k:=by omega
    have hx2:=hx (by rw [h1.1]; rfl);unfold idxC at hx2;rw [if_pos (by omega),Int.toNat_natCast,hy] at hx2;cases hx2;exact beq_eq_false_iff_ne.1 h1.2
  ·rw [decide_eq_false (by omega:¬((k:Nat):Int)<((i:Nat):Int)),cond_false];exact(j6_pf d t b).imp fun h=>⟨h,fun m y m1 m2=>by omega⟩
theorem whole_pf (d:TDoc) (i:Nat):Pf (Z95_q d (i:Int)) [] (Gn TDef.FName d.FDefs.l i):=by
 unfold Z95_q Z95;refine Pf.skip fun x hx=>Pf.skip fun b _=>?_;refine(l30_pf d x i F0 0 b).imp fun⟨_,h2⟩=>?_;intro z hz m y hm hy;unfold idxC at hx;rw [if_pos (by omega),Int.toNat_natCast,hz] at hx;cases hx;exact h2 m y (Nat.zero_le m) hm hy
def PartD (t:TDef):Prop:=(t.FKind=1\/t.FKind=2->Dst Z4.FName t.FFields.l/\∀x∈t.FFields.l,Dst Z5.FName x.FArgs.l)/\(t.FKind=5->Dst Z5.FName t.FInputs.l)
theorem check_pf (d:TDoc):∀(l:List TDef) (i:Nat) (s:Sl Z3),d.FDefs.l.drop i=l->Pf (Z77_q14 d l i s) s.l (∀j,i<=j->Gn TDef.FName d.FDefs.l j/\∀x,d.FDefs.l[j]?=some x->PartD x)
 | [],i,s,h=>by
  rw [Z77_q14];exact Pf.pure fun j hj=>⟨fun x hx=>(by rw [drop_nil_get h hj] at hx; cases hx),fun x hx=>(by rw [drop_nil_get h hj] at hx; cases hx)⟩
 | a::r,i,s,h=>by
  obtain⟨h1,h2⟩:=drop_hd h;rw [Z77_q14];simp only [Ab.on];refine(Pf.appB (Q:=PartD a/\∀j,i+1<=j->Gn TDef.FName d.FDefs.l j/\∀x,d.FDefs.l[j]?=some x->PartD x) s (whole_pf d i) fun u=>?_).imp fun⟨z1,z2,z3⟩ j hj=>?_
  ·refine Pf.bind ?_ fun u=>check_pf d r (i+1) u h2;have e12:(bif (decide (a.FKind=(1:Int))) then((decide (a.FKind=(1:Int)))) else((decide (a.FKind=(2:Int)))))=decide (a.FKind=1\/a.FKind=2):=by
    by_cases c1:a.FKind=1<;>by_cases c2:a.FKind=2<;>simp [c1,c2]
   rw [e12];by_cases c12:a.FKind=1\/a.FKind=2
   ·rw [decide_eq_true c12,cond_true];have:=(Pf.app u (fields_dst d a)).id;rw [Option.bind_assoc] at this;exact this.imp fun h=>⟨fun _=>h,fun h5=>by omega⟩
   ·rw [decide_eq_false c12,cond_false];by_cases c4:a.FKind=4
    ·rw [decide_eq_true c4,cond_true];have:=(Pf.app (P:=True) u (o:=Z92_q a) fun r _=>⟨fun h=>absurd rfl h,fun _=>trivial⟩).id;rw [Option.bind_assoc] at this;exact this.imp fun _=>⟨fun h=>absurd h c12,fun h5=>by omega⟩
    ·rw [decide_eq_false c4,cond_false];by_cases c5:a.FKind=5
     ·rw [decide_eq_true c5,cond_true];refine Pf.skip fun t _=>?_;have:=(Pf.app u (inputs_dst d a.FInputs t [])).id;rw [Option.bind_assoc] at this;exact this.imp fun h=>⟨fun h=>absurd h c12,fun _=>h⟩
     ·rw [decide_eq_false c5,cond_false];exact Pf.pure ⟨fun h=>absurd h c12,fun h=>absurd h c5⟩
  ·rcases Nat.lt_or_ge i j with c|c
   ·exact z3 j c
   ·obtain rfl:j=i:=by omega
    exact⟨z1,fun x hx=>by rw [h1] at hx; cases hx; exact z2⟩
theorem check_dst {d:TDoc}{b:Bool}{r:Sl Z3}(h:Z77_q d b=some r) (hr:r.l=[]):Dst TDef.FName d.FDefs.l/\∀t∈d.FDefs.l,PartD t:=by
 have h2:Pf (Z77_q d b) [] (∀j,0<=j->Gn TDef.FName d.FDefs.l j/\∀x,d.FDefs.l[j]?=some x->PartD x):=by
  unfold Z77_q;simp only [Ab.on];refine(Pf.bind (Q:=True) (check_pf d d.FDefs.l 0 Sl.nil rfl) fun u=>?_).imp And.left;refine Pf.id ?_;generalize (b&&(!(Z79_q d ([81,117,101,114,121]:Bs)).2))=c;cases c
  ·exact Pf.pure trivial
  ·exact(Pf.add _ _ _ _).id
 have h3:=(h2 r h).2 hr;refine⟨dst_of fun j=>(h3 j (Nat.zero_le j)).1,fun t ht=>?_⟩;obtain⟨j,hj,rfl⟩:=List.mem_iff_getElem.1 ht;exact(h3 j (Nat.zero_le j)).2 _ (List.getElem?_eq_getElem hj)
end Go.Proofs

namespace Go.Proofs
open Go Go.Ab
theorem condE {α:Type}{c:Bool}{a b:Option α}{z:α}(h:cond c a b=some z):(c=true/\a=some z)\/(c=false/\b=some z):=by cases c; exact .inr ⟨rfl,h⟩; exact .inl ⟨rfl,h⟩
theorem guardE {α β:Type}{c:Bool}{o:Option α}{d:α}{k:α->Option β}{z:β}(h:guardO c o d k=some z):(c=true/\∃v,o=some v/\k v=some z)\/(c=false/\k d=some z):=by
  cases c
  · exact .inr ⟨rfl,h⟩
  · cases ho:o with
    | none=>rw [ho] at h; cases h
    | some v=>rw [ho] at h; exact .inl ⟨rfl,v,rfl,h⟩
theorem defs34 (l:List Bs) (y:Bool) (h:Z67_q34 l=Sum.inr y):y=false:=by
  induction l with
  | nil=>cases h
  | cons a r ih =>
    rw [Z67_q34] at h;simp only [Ab.on] at h
    revert h
    cases (!Z35_q a) with
    | true=>intro h; exact(Sum.inr.inj h).symm
    | false=>exact ih
theorem docs_right (l:List TDef) (z:Unit ⊕ Bool) (h:Z64_q10 l=some z):(z=Sum.inl ()/\∀x∈l,Z67_q x=some true)\/z=Sum.inr false:=by
  induction l generalizing z with
  | nil=>rw [Z64_q10] at h; exact .inl ⟨(Option.some.inj h).symm,fun a ha=>by cases ha⟩
  | cons a r ih =>
    rw [Z64_q10] at h;simp only [Ab.on] at h;obtain⟨x,g,h⟩:=bindO_some h;cases x with
    | false=>simp at h; exact .inr h.symm
    | true =>
      simp only [Bool.not_true,cond_false] at h;rcases ih z h with ⟨h1,h2⟩|h1
      · exact .inl ⟨h1,fun y hy=>by rcases List.mem_cons.1 hy with rfl|hy; exact g; exact h2 y hy⟩
      · exact .inr h1
theorem doc_right {d:TDoc}(h:Z64_q d=some true):∀x∈d.FDefs.l,Z67_q x=some true:=by
  unfold Z64_q at h;rcases condE h with ⟨_,h⟩|⟨_,h⟩
  · cases h
  · obtain⟨z,g,h⟩:=bindO_some h
    rcases docs_right _ _ g with ⟨_,h1⟩|rfl
    · exact h1
    · cases h
theorem def_parts {t:TDef}(h:Z67_q t=some true):((t.FKind=1\/t.FKind=2)\/t.FFields.l=[])/\(t.FKind=5\/t.FInputs.l=[]):=by
  unfold Z67_q at h;simp only [Ab.on] at h;rcases guardE h with ⟨_,x5,_,h⟩|⟨_,h⟩<;>rcases condE h with ⟨_,h⟩|⟨_,h⟩;all_goals first
    | (cases h; done)
    | (cases e:Z67_q34 t.FImplements.l with
       | inr y=>rw [e] at h; have:=defs34 _ _ e; subst this; cases h
       | inl _ =>
         rw [e] at h;simp only at h;rcases condE h with ⟨k1,h⟩|⟨_,h⟩
         · obtain⟨x15,_,h⟩:=bindO_some h
           simp at h k1;exact⟨.inl (.inl k1),.inr h.2⟩
         · rcases condE h with ⟨k1,h⟩|⟨_,h⟩
           · rcases guardE h with ⟨_,x,_,h⟩|⟨_,h⟩
             · simp at h k1; exact⟨.inl (.inr k1),.inr h.2⟩
             · simp at h
           · rcases condE h with ⟨_,h⟩|⟨_,h⟩
             · rcases guardE h with ⟨_,x,_,h⟩|⟨_,h⟩
               · simp at h; exact⟨.inr h.1.1.2,.inr h.2⟩
               · simp at h
             · rcases condE h with ⟨_,h⟩|⟨_,h⟩
               · rcases guardE h with ⟨_,x,_,h⟩|⟨_,h⟩
                 · simp at h; exact⟨.inr h.1.1.2,.inr h.2⟩
                 · simp at h
               · rcases condE h with ⟨k1,h⟩|⟨_,h⟩
                 · rcases guardE h with ⟨_,x,ex,h⟩|⟨_,h⟩
                   · simp at h k1; exact⟨.inr h.1.1.1.2,.inl k1⟩
                   · simp at h
                 · cases h)
theorem rok {t:TRef}(h:t.sz<=1048576):ROk t:=by
  have h1:=t.sz_def;have h2:=TRef.wraps_le t;have h3:Bs.sz t.FName=t.FName.length+1:=rfl;exact⟨by omega,by omega⟩
theorem iok {x:Z5}(hw:x.wf) (h:x.sz<=1048576):IOk x:=by
  have h1:=x.sz_def;exact⟨rok (by omega),by omega,hw.2.2.2.1⟩
theorem fok {x:Z4}(hw:x.wf) (h:x.sz<=1048576):FOk x:=by
  have h1:=x.sz_def;exact⟨rok (by omega),fun y hy=>iok (hw.2.1.2.2 y hy) (by have:=Sl.mem_le (f:=Z5.sz) hy; omega)⟩
theorem tok {t:TDef}(hw:t.wf) (h:t.sz<=1048576):TOk t:=by
  have h1:=t.sz_def;have h2:=Sl.len_le (f:=Bs.sz) t.FImplements (fun x=>Bs.sz_pos x);have h3:=Sl.len_le (f:=Z6.sz) t.FMembers (fun x=>x.pos);exact⟨fun x hx=>fok (hw.2.2.2.2.1.2.2 x hx) (by have:=Sl.mem_le (f:=Z4.sz) hx; omega),fun x hx=>iok (hw.2.2.2.2.2.2.1.2.2 x hx) (by have:=Sl.mem_le (f:=Z5.sz) hx; omega),by omega,⟨hw.2.2.1.1,by omega⟩⟩
end Go.Proofs

namespace Go.Proofs
open Go Go.Ab
structure DocOk (d:TDoc):Prop where
 t:∀t∈d.FDefs.l,TOk t
 n:Dst TDef.FName d.FDefs.l
 e:∀t∈d.FDefs.l,DDst t
 w:dw d.FDefs.l<=600
 r:∀t∈d.FDefs.l,Z67_q t=some true
theorem tw_le {A:List TDef}{t:TDef}(h:t∈A):1+tw t<=dw A:=by
 unfold dw;induction A with
 | nil=>cases h
 | cons a r ih =>
  simp only [List.map_cons,List.sum_cons];rcases List.mem_cons.1 h with rfl|h
  ·omega
  ·have:=ih h; omega
theorem fw_le {A:List Z4}{f:Z4}(h:f∈A):f.FArgs.l.length+1<=(A.map fw).sum:=by
 induction A with
 | nil=>cases h
 | cons a r ih =>
  simp only [List.map_cons,List.sum_cons];rcases List.mem_cons.1 h with rfl|h
  ·unfold fw; omega
  ·have:=ih h; omega
theorem fw_len (A:List Z4):A.length<=(A.map fw).sum:=by
 induction A with
 | nil=>simp
 | cons a r ih=>simp only [List.map_cons,List.sum_cons,List.length_cons]; unfold fw at ih ⊢; omega
theorem expected_is {d:TDoc}(hw:d.wf) (hd:d.sz<=1048576):∃b,Z32_q d=some b/\(b=true->DocOk d):=by
 obtain⟨x3,e3,w3⟩:=doc_g d hd;obtain⟨x4,e4⟩:=Z64_ok d hd;obtain⟨x5,e5,-⟩:=check_tl hd false;have hlen:=Sl.len_le (f:=TDef.sz) d.FDefs (fun x=>x.pos);have hd2:=d.sz_def;unfold Z32_q;rw [e3,Option.bind_some,e4,e5];by_cases hx:x3<=600
 ·have hW:=w3 hx;obtain⟨x6,e6,-⟩:=faces_tl hd ⟨by have:=dw_eq d.FDefs.l; omega,fun x hx=>by
   have h1:=tw_le hx;have h2:=fw_len x.FFields.l;unfold tw at h1;exact⟨⟨by omega,by omega,by omega,by omega,fun f hf=>by have:=fw_le hf; omega⟩,by omega⟩⟩
  rw [e6,decide_eq_true hx];simp only [Bool.true_and];have main:∀c:Bool,(c=true->(d.FDefs.l.length=0\/x4=true))->∃b,(guardO c (some x5) (Sl.nil:Sl Z3) fun x5=>guardO (c&&decide (((x5.l.length:Nat):Int)=(0:Int))) (some x6) (Sl.nil:Sl Z3) fun x6=>some ((c&&decide (((x5.l.length:Nat):Int)=(0:Int)))&&decide (((x6.l.length:Nat):Int)=(0:Int))))=some b/\(b=true->DocOk d):=by
   intro c hc;cases c
   ·exact⟨_,rfl,fun h=>by simp at h⟩
   ·have h5:x5.l.length=0->DocOk d:=fun h5=>by
     obtain⟨c1,c2⟩:=check_dst e5 (List.eq_nil_of_length_eq_zero h5);have hR:∀t∈d.FDefs.l,Z67_q t=some true:=fun t ht=>by
      rcases hc rfl with h|h
      ·rw [List.eq_nil_of_length_eq_zero h] at ht; cases ht
      ·rw [h] at e4; exact doc_right e4 t ht
     refine⟨fun t ht=>tok (hw.1.2.2 t ht) (by have:=TDoc.def_le ht; omega),c1,fun t ht=>?_,hW,hR⟩;have hr:=hR t ht;obtain⟨p1,p2⟩:=c2 t ht;obtain⟨q1,q2⟩:=def_parts hr;refine⟨?_, ?_, ?_⟩
     ·rcases q1 with q|q
      ·exact(p1 q).1
      ·rw [q]; exact List.Pairwise.nil
     ·rcases q1 with q|q
      ·exact(p1 q).2
      ·rw [q]; intro x hx; cases hx
     ·rcases q2 with q|q
      ·exact p2 q
      ·rw [q]; exact List.Pairwise.nil
    simp only [guardO,if_true,Option.bind_some,Bool.true_and];by_cases h0:x5.l.length=0
    ·rw [decide_eq_true (by omega:((x5.l.length:Nat):Int)=(0:Int))];exact⟨_,rfl,fun _=>h5 h0⟩
    ·rw [decide_eq_false (by omega:¬((x5.l.length:Nat):Int)=(0:Int))];exact⟨_,rfl,fun h=>by simp at h⟩
  by_cases h0:d.FDefs.l.length=0
  ·rw [decide_eq_true (by omega:((d.FDefs.l.length:Nat):Int)=(0:Int))];exact main true fun _=>.inl h0
  ·rw [decide_eq_false (by omega:¬((d.FDefs.l.length:Nat):Int)=(0:Int))];exact main x4 fun h=>.inr h
 ·rw [decide_eq_false hx];exact⟨false,rfl,fun h=>(by cases h)⟩
end Go.Proofs

namespace Go.Proofs
open Go Go.Ab
theorem inputs_right (l:List Z5) (z:Unit ⊕ Bool) (h:Z70_q10 l=some z):(z=Sum.inl ()/\∀x∈l,x.FHas=true->Z45_q x.FDefault=some true)\/z=Sum.inr false:=by
  induction l generalizing z with
  | nil=>rw [Z70_q10] at h; exact .inl ⟨(Option.some.inj h).symm,fun a ha=>by cases ha⟩
  | cons a r ih =>
    rw [Z70_q10] at h;simp only [Ab.on] at h;have step:∀(x27:Bool),(a.FHas=true->Z45_q a.FDefault=some x27)->∀x28:Bool,(bif ((a.FHas&&((!x27)||(!x28)))||((!a.FHas)&&(!(bif (!(a.FHas&&((!x27)||(!x28)))&&(!a.FHas)) then Z72_q a.FDefault else false)))) then(some (Sum.inr false)) else(Z70_q10 r))=some z ->
        (z=Sum.inl ()/\∀x∈a::r,x.FHas=true->Z45_q x.FDefault=some true)\/z=Sum.inr false:=by
      intro x27 e x28 h;rcases condE h with ⟨_,h⟩|⟨hc,h⟩
      · exact .inr (Option.some.inj h).symm
      · rcases ih z h with ⟨h1,h2⟩|h1
        · refine .inl ⟨h1,fun x hx hh=>?_⟩
          rcases List.mem_cons.1 hx with rfl|hx
          · have:=e hh
            rw [hh] at hc;cases x27 with
            | true=>exact this
            | false=>simp at hc
          · exact h2 x hx hh
        · exact .inr h1
    rcases guardE h with ⟨_,x22,_,h⟩|⟨_,h⟩<;>rcases guardE h with ⟨_,x23,_,h⟩|⟨_,h⟩<;>rcases condE h with ⟨_,h⟩|⟨_,h⟩;all_goals first
      | exact .inr (Option.some.inj h).symm
      | (rcases guardE h with ⟨_,x27,e27,h⟩|⟨e27,h⟩
         · rcases guardE h with ⟨_,x28,_,h⟩|⟨_,h⟩
           · exact step x27 (fun _=>e27) x28 h
           · exact step x27 (fun _=>e27) false h
         · rcases guardE h with ⟨_,x28,_,h⟩|⟨_,h⟩
           · exact step false (fun hh=>by rw [hh] at e27; cases e27) x28 h
           · exact step false (fun hh=>by rw [hh] at e27; cases e27) false h)
theorem inputsRight_w {s:Sl Z5}(h:Z70_q s=some true):∀x∈s.l,x.FHas=true->Z45_q x.FDefault=some true:=by
  unfold Z70_q at h;rcases condE h with ⟨_,h⟩|⟨_,h⟩
  · cases h
  · obtain⟨z,g,h⟩:=bindO_some h
    rcases inputs_right _ _ g with ⟨_,h1⟩|rfl
    · exact h1
    · cases h
def RtI (x:Z5):Prop:=x.FHas=true->Z45_q x.FDefault=some true
theorem guardT {α β:Type}{o:Option α}{d:α}{k:α->Option β}{z:β}(h:guardO true o d k=some z):∃v,o=some v/\k v=some z:=by
  rcases guardE h with ⟨_,h⟩|⟨hc,_⟩
  · exact h
  · cases hc
theorem fields_right (l:List Z4) (z:Unit ⊕ Bool) (h:Z69_q10 l=some z):(z=Sum.inl ()/\∀x∈l,Z70_q x.FArgs=some true)\/z=Sum.inr false:=by
  induction l generalizing z with
  | nil=>rw [Z69_q10] at h; exact .inl ⟨(Option.some.inj h).symm,fun a ha=>by cases ha⟩
  | cons a r ih =>
    rw [Z69_q10] at h;simp only [Ab.on] at h;cases e:Z35_q a.FName with
    | false=>simp [e,guardO] at h; exact .inr h.symm
    | true =>
      simp only [e,Bool.not_true,Bool.not_false,cond_true,Bool.false_or] at h;obtain⟨x21,e21,h⟩:=guardT h;cases x21 with
      | false=>simp [guardO] at h; exact .inr h.symm
      | true =>
        simp only [Bool.not_true,Bool.not_false,cond_true,Bool.false_or] at h;obtain⟨x23,_,h⟩:=guardT h;cases x23 with
        | false=>simp [guardO] at h; exact .inr h.symm
        | true =>
          simp only [Bool.not_true,Bool.not_false,cond_true,Bool.false_or] at h;obtain⟨x25,_,h⟩:=guardT h;cases x25 with
          | false=>simp at h; exact .inr h.symm
          | true =>
            simp only [Bool.not_true,cond_false] at h;rcases ih z h with ⟨h1,h2⟩|h1
            · exact .inl ⟨h1,fun y hy=>by rcases List.mem_cons.1 hy with rfl|hy; exact e21; exact h2 y hy⟩
            · exact .inr h1
theorem inputsRight_n {s:Sl Z5}(h:Z70_q s=some true):s.l.length<=16:=by
  unfold Z70_q at h;rcases condE h with ⟨_,h⟩|⟨h1,_⟩
  · cases h
  · rw [decide_eq_false_iff_not] at h1; omega
theorem fieldsRight_w {s:Sl Z4}(h:Z69_q s=some true):s.l.length<=64/\∀x∈s.l,Z70_q x.FArgs=some true:=by
  unfold Z69_q at h;rcases condE h with ⟨_,h⟩|⟨h1,h⟩
  · cases h
  · obtain⟨z,g,h⟩:=bindO_some h
    rw [Bool.or_eq_false_iff,decide_eq_false_iff_not,decide_eq_false_iff_not] at h1;rcases fields_right _ _ g with ⟨_,h2⟩|rfl
    · exact⟨by omega,h2⟩
    · cases h
theorem membersRight_n {s:Sl Z6}{b:Bool}(h:Z71_q s b=some true):s.l.length<=64:=by
  unfold Z71_q at h;rcases condE h with ⟨_,h⟩|⟨h1,_⟩
  · cases h
  · rw [Bool.or_eq_false_iff,decide_eq_false_iff_not,decide_eq_false_iff_not] at h1; omega
structure Rt (t:TDef):Prop where
  f:t.FFields.l.length<=64
  a:∀x∈t.FFields.l,Z70_q x.FArgs=some true
  i:t.FInputs.l.length<=16
  d:∀y∈t.FInputs.l,RtI y
  m:t.FMembers.l.length<=64
  p:t.FImplements.l.length<=64
  q:t.FInputs.l=[]\/Z70_q t.FInputs=some true
theorem def_rt {t:TDef}(h:Z67_q t=some true):Rt t:=by
  have mk:t.FImplements.l.length<=64->(t.FFields.l=[]\/Z69_q t.FFields=some true)->(t.FInputs.l=[]\/Z70_q t.FInputs=some true)->t.FMembers.l.length<=64->Rt t:=fun h1 h2 h3 h4=>by
    refine⟨?_, ?_, ?_, ?_,h4,h1,h3⟩
    · rcases h2 with e|e
      · rw [e]; exact Nat.zero_le _
      · exact(fieldsRight_w e).1
    · rcases h2 with e|e
      · rw [e]; intro x hx; cases hx
      · exact(fieldsRight_w e).2
    · rcases h3 with e|e
      · rw [e]; exact Nat.zero_le _
      · exact inputsRight_n e
    · rcases h3 with e|e
      · rw [e]; intro x hx; cases hx
      · exact inputsRight_w e
  have z:∀{α:Type}{l:List α},l=[]->l.length<=64:=fun e=>by rw [e]; exact Nat.zero_le _
  unfold Z67_q at h;simp only [Ab.on] at h;rcases guardE h with ⟨_,x5,_,h⟩|⟨_,h⟩<;>rcases condE h with ⟨_,h⟩|⟨hp,h⟩;all_goals first
    | (cases h; done)
    | (have hq:t.FImplements.l.length<=64:=by
         rw [Bool.or_eq_false_iff,decide_eq_false_iff_not] at hp; omega
       cases e:Z67_q34 t.FImplements.l with
       | inr y=>rw [e] at h; have:=defs34 _ _ e; subst this; cases h
       | inl _ =>
         rw [e] at h;simp only at h;rcases condE h with ⟨k1,h⟩|⟨_,h⟩
         · obtain⟨x15,ex,h⟩:=bindO_some h
           simp at h k1;rw [h.1.1] at ex;exact mk hq (.inr ex) (.inl h.2) (z h.1.2)
         · rcases condE h with ⟨k1,h⟩|⟨_,h⟩
           · rcases guardE h with ⟨_,x,ex,h⟩|⟨_,h⟩
             · simp at h k1; rw [h.1.1.2] at ex; exact mk hq (.inr ex) (.inl h.2) (z h.1.2)
             · simp at h
           · rcases condE h with ⟨_,h⟩|⟨_,h⟩
             · rcases guardE h with ⟨_,x,ex,h⟩|⟨_,h⟩
               · simp at h; rw [h.1.2] at ex; exact mk hq (.inl h.1.1.2) (.inl h.2) (membersRight_n ex)
               · simp at h
             · rcases condE h with ⟨_,h⟩|⟨_,h⟩
               · rcases guardE h with ⟨_,x,ex,h⟩|⟨_,h⟩
                 · simp at h; rw [h.1.2] at ex; exact mk hq (.inl h.1.1.2) (.inl h.2) (membersRight_n ex)
                 · simp at h
               · rcases condE h with ⟨k1,h⟩|⟨_,h⟩
                 · rcases guardE h with ⟨_,x,ex,h⟩|⟨_,h⟩
                   · simp at h k1; rw [h.2] at ex; exact mk hq (.inl h.1.1.1.2) (.inr ex) (z h.1.1.2)
                   · simp at h
                 · cases h)
theorem def_full {t:TDef}(h:Z67_q t=some true):(∀x∈t.FFields.l,∀y∈x.FArgs.l,RtI y)/\∀y∈t.FInputs.l,RtI y:=⟨fun x hx=>inputsRight_w ((def_rt h).a x hx),(def_rt h).d⟩
end Go.Proofs

namespace Go.Proofs
open Go Go.Ab
theorem u8_small {n:Nat}(h:n<256):IntKind.wrap .u8 (n:Int)=(n:Int):=by
 have:(n:Int) % 256=n:=by omega
 simp [IntKind.wrap,IntKind.bits,IntKind.signed]; omega
theorem bytes_one (k:Nat):bytesC (⟨false,[((48+k:Nat):Int)]⟩:Sl Int)=[UInt8.ofNat (48+k)]:=by
 show [UInt8.ofNat ((48+k:Nat):Int).toNat]=_;rw [Int.toNat_natCast]
theorem digits_eq:∀(f u:Nat),u<10 ^ f->u<=9223372036854775808->f<=30->∀m,f+1<=m->Z39_qn m (-(u:Int))=some (Lib.decDigits u):=by
 intro f;induction f with
 | zero =>
  intro u hu hb hf m hm;have:u=0:=by simpa using hu
  subst this;obtain⟨m,rfl⟩:∃k,m=k+1:=⟨m-1,by omega⟩;rw [Lib.decDigits]; rfl
 | succ f ih =>
  intro u hu hb hf m hm;obtain⟨m,rfl⟩:∃k,m=k+1:=⟨m-1,by omega⟩;have h1:Int.tmod (-(u:Int)) 10 = -((u % 10:Nat):Int):=by rw [Int.neg_tmod]; rfl
  have h2:Int.tdiv (-(u:Int)) 10 = -((u / 10:Nat):Int):=by rw [Int.neg_tdiv]; rfl
  rw [Z39_qn,h1,h2,subC_ok (by omega),Option.bind_some];have h3:(48:Int) - -((u % 10:Nat):Int)=((48+u % 10:Nat):Int):=by omega
  rw [h3,u8_small (by omega),Lib.decDigits];by_cases hs:u<10
  ·rw [dif_pos hs,show decide ((-10:Int) < -(u:Int))=true from decide_eq_true (by omega),cond_true,Nat.mod_eq_of_lt hs,bytes_one]
  ·rw [dif_neg hs,show decide ((-10:Int) < -(u:Int))=false from decide_eq_false (by omega),cond_false,IntWalk.i64_in _ (by omega),ih (u / 10) (by rw [Nat.pow_succ] at hu; omega) (by omega) (by omega) m (by omega),Option.bind_some];have hl:=dlen20 (u:=u / 10) (by omega);rw [bytes_one,catC_ok (by simp; omega),Option.bind_some]
theorem decimal_eq {n:Int}(h0 : -9223372036854775808<=n) (h1:n<=9223372036854775807):Z34_q n=some (Lib.itoa n):=by
 unfold Z34_q Z39_q;have hF:∀u:Nat,u<=9223372036854775808->Z39_qn F0 (-(u:Int))=some (Lib.decDigits u):=fun u hu=>digits_eq 20 u (by omega) hu (by omega) F0 (by rw [F0_eq]; omega);by_cases hn:n<0
 ·obtain⟨u,rfl⟩:∃u:Nat,n = -(u:Int):=⟨n.natAbs,by omega⟩;rw [show decide (-(u:Int)<0)=true from decide_eq_true hn,cond_true,hF u (by omega),Option.bind_some];have hl:=dlen20 (u:=u) (by omega);rw [catC_ok (by simp; omega),Option.bind_some];unfold Lib.itoa; rw [if_pos hn,show (-(u:Int)).natAbs=u by omega]; rfl
 ·obtain⟨u,rfl⟩:∃u:Nat,n=(u:Int):=⟨n.natAbs,by omega⟩;rw [show decide ((u:Int)<0)=false from decide_eq_false hn,cond_false,IntWalk.i64_in _ (by omega),show (0:Int)-(u:Int) = -(u:Int) by omega,hF u (by omega),Option.bind_some];unfold Lib.itoa; rw [if_neg hn,Int.toNat_natCast]
end Go.Proofs

namespace Go.Proofs
open Go Go.Ab
theorem escape_eq (c:UInt8):Z40_q ((c.toNat:Nat):Int)=some (esc c):=by
 revert c
 apply all_u8
 decide +kernel
theorem quote_loop:∀(s:Bs) (o:Bs),o.length+6*s.length<=1099511627776->Z36_q8 s o=some (o++s.flatMap esc):=by
 intro s;induction s with
 | nil=>intro o _; simp [Z36_q8]
 | cons a r ih =>
  intro o h;have:=esc_len a;simp only [List.length_cons] at h;rw [Z36_q8];simp only [Ab.on];rw [escape_eq,Option.bind_some,catC_ok (by omega),Option.bind_some,ih _ (by simp; omega)];simp
theorem rquote_eq (s:Bs) (h:s.length<=1048576):Z36_q s=some (qt s):=by
 have hf:=flat_len s;unfold Z36_q;rw [quote_loop _ _ (by simp; omega),Option.bind_some];simp only [Ab.on];rw [catC_ok (by simp only [List.length_append,List.length_cons,List.length_nil]; omega)];simp [qt]
def BlV:Nat->Z7->Prop
 | 0,_=>False
 | n+1,v=>(v.FKind=1->v.FInt=0\/v.FInt=1)/\∀x∈v.FItems.l,BlV n x
theorem node_bool {v:Z7}{b:Bool}(h:Z50_q v b=some true) (hk:v.FKind=1):v.FInt=0\/v.FInt=1:=by
 unfold Z50_q at h;simp [hk] at h;exact h.1.1.1
theorem whole_bl (n:Nat):∀(v:Z7) (b:Bool),Z53_qn n v b=some true->BlV n v:=by
 induction n with
 | zero=>intro v b h; cases h
 | succ n ih =>
  intro v b h;rw [Z53_qn] at h;cases e:Z50_q v b with
  | none=>rw [e] at h; cases h
  | some x =>
   cases x with
   | false=>rw [e] at h; cases h
   | true =>
    rw [e] at h;simp only [Option.bind_some,Bool.not_true,cond_false,Ab.on] at h;have hl:∀l:List Z7,Z53_q11 b (Z53_qn n) l=some (Sum.inl ())->∀x∈l,Z53_qn n x b=some true:=by
     intro l;induction l with
     | nil=>intro _ x hx; cases hx
     | cons a r ihl =>
      intro h;rw [Z53_q11] at h;simp only [Ab.on] at h;cases e:Z53_qn n a b with
      | none=>simp [e] at h
      | some y =>
       cases y with
       | false=>simp [e] at h
       | true =>
        simp only [e,Option.bind_some,Bool.not_true,cond_false] at h;intro x hx;rcases List.mem_cons.1 hx with rfl|hx
        ·exact e
        ·exact ihl h x hx
    have hitems:∀x∈v.FItems.l,Z53_qn n x b=some true:=by
     cases e2:Z53_q24 b v.FKeys.l with
     | inr y=>rw [e2] at h; simp only [Option.some.injEq] at h; subst h; exact absurd e2 (by
       intro e2;have:∀l:List Bs,Z53_q24 b l≠Sum.inr true:=by
        intro l;induction l with
        | nil=>intro h; cases h
        | cons a r ihl =>
         rw [Z53_q24]; simp only [Ab.on];cases (b&&!(bif b then Z35_q (bif b then a else []) else false)) with
         | true=>intro h; cases h
         | false=>exact ihl
       exact this _ e2)
     | inl _ =>
      rw [e2] at h;simp only at h;cases e3:Z53_q11 b (Z53_qn n) v.FItems.l with
      | none=>rw [e3] at h; cases h
      | some z =>
       cases z with
       | inl _=>exact hl _ e3
       | inr y =>
        rw [e3] at h;simp only [Option.bind_some,Option.some.injEq] at h;subst h;have:∀l:List Z7,Z53_q11 b (Z53_qn n) l≠some (Sum.inr true):=by
         intro l;induction l with
         | nil=>intro h; cases h
         | cons a r ihl =>
          rw [Z53_q11]; simp only [Ab.on];cases Z53_qn n a b with
          | none=>intro h; cases h
          | some y =>
           cases y with
           | false=>intro h; cases h
           | true=>exact ihl
        exact(this _ e3).elim
    exact⟨fun hk=>node_bool e hk,fun x hx=>ih x b (hitems x hx)⟩
theorem literal_is {v:Z7}(h:Z45_q v=some true):Z53_qn F0 v true=some true:=by
 unfold Z45_q at h;obtain⟨a,_,h⟩:=bindO_some h;rcases guardE h with ⟨_,b,_,h⟩|⟨_,h⟩
 ·rcases guardE h with ⟨_,c,e,h⟩|⟨_,h⟩
  ·simp at h; rw [h.2] at e; exact e
  ·simp at h
 ·rcases guardE h with ⟨_,c,e,h⟩|⟨_,h⟩
  ·simp at h; rw [h.2] at e; exact e
  ·simp at h
theorem rjoin_loop:∀(l:List Bs) (i:Nat) (o:Bs),o.length+(l.map fun x=>x.length+2).sum<=1099511627776 ->
  Z76_q7 sepB l i o=some (o++if i=0 then Lib.join l sepB else Lib.joinTail sepB l):=by
 intro l;induction l with
 | nil=>intro i o _; rw [Z76_q7]; split<;>simp [Lib.join_nil,Lib.joinTail]
 | cons a r ih =>
  intro i o h;simp only [List.map_cons,List.sum_cons] at h;have hs:sepB.length=2:=rfl;have tc:Lib.joinTail sepB (a::r)=sepB++(a++Lib.joinTail sepB r):=by simp [Lib.joinTail]
  rw [Z76_q7];simp only [Ab.on];by_cases hi:i=0
  ·rw [show decide ((0:Int)<((i:Nat):Int))=false from decide_eq_false (by omega),cond_false,Option.bind_some,catC_ok (by omega),Option.bind_some,ih (i+1) _ (by rw [List.length_append]; omega),if_neg (by omega),if_pos hi,Lib.join_cons];simp
  ·rw [show decide ((0:Int)<((i:Nat):Int))=true from decide_eq_true (by omega),cond_true,catC_ok (by omega),Option.bind_some,Option.bind_some,catC_ok (by simp only [List.length_append]; omega),Option.bind_some,ih (i+1) _ (by simp only [List.length_append]; omega),if_neg (by omega),if_neg hi,tc];simp
theorem rjoin_eq {nl:Bool}{l:List Bs}(h:(l.map fun x=>x.length+2).sum<=1099511627776):Z76_q ⟨nl,l⟩ ([44,32]:Bs)=some (Lib.join l sepB):=by
 unfold Z76_q;have:=rjoin_loop l 0 [] (by simpa using h);rw [show ([44,32]:Bs)=sepB from rfl,this];simp [Ab.on]
theorem r36_eq {rec:Z7->Option Bs}:∀(l:List Z7) (s:List Bs) (nl:Bool),(∀x∈l,rec x=some (wv x))->s.length+l.length<=2097152->∃nl',Z75_q36 rec l ⟨nl,s⟩=some ⟨nl',s++l.map wv⟩
 | [],s,nl,_,_=>⟨nl,by rw [Z75_q36]; simp⟩
 | a::r,s,nl,hr,h=>by
  simp only [List.length_cons] at h;rw [Z75_q36];simp only [Ab.on];rw [hr a (.head _),Option.bind_some,appC_ok (by decide) (by simp only [List.length_cons,List.length_nil]; omega),Option.bind_some];obtain⟨n2,e⟩:=r36_eq r (s++[wv a]) (nl&&([wv a]:List Bs).isEmpty) (fun x hx=>hr x (.tail _ hx)) (by simp only [List.length_append,List.length_cons,List.length_nil]; omega);exact⟨n2,by rw [e]; simp⟩
theorem r57_eq {v:Z7}{rec:Z7->Option Bs}(hkb:∀x∈v.FKeys.l,x.length<=1048576):∀(l:List Z7) (i:Nat) (s:List Bs) (nl:Bool),(∀x∈l,rec x=some (wv x)/\(wv x).length<=1099511627)->s.length+l.length<=2097152 ->
  ∃nl',Z75_q57 v rec l i ⟨nl,s⟩=some ⟨nl',s++List.zipWith pairB (v.FKeys.l.drop i) (l.map wv)⟩
 | [],i,s,nl,_,_=>⟨nl,by rw [Z75_q57]; simp⟩
 | a::r,i,s,nl,hr,h=>by
  simp only [List.length_cons] at h;obtain⟨h1,h2⟩:=hr a (.head _);rw [Z75_q57];by_cases hk:i<v.FKeys.l.length
  ·have b1:=hkb _ (List.getElem_mem hk);rw [decide_eq_true (by omega:((i:Nat):Int)<((v.FKeys.l.length:Nat):Int)),cond_true,List.getElem?_eq_getElem hk,Option.bind_some,catC_ok (by simp only [List.length_cons,List.length_nil]; omega),Option.bind_some];simp only [Ab.on];rw [h1,Option.bind_some,catC_ok (by simp only [List.length_append,List.length_cons,List.length_nil]; omega),Option.bind_some,appC_ok (by decide) (by simp only [List.length_cons,List.length_nil]; omega),Option.bind_some]
   obtain⟨n2,e⟩:=r57_eq (v:=v) hkb r (i+1) (s++[v.FKeys.l[i]++[58,32]++wv a]) (nl&&([v.FKeys.l[i]++[58,32]++wv a]:List Bs).isEmpty) (fun x hx=>hr x (.tail _ hx)) (by simp only [List.length_append,List.length_cons,List.length_nil]; omega);refine⟨n2, ?_⟩;rw [e,List.drop_eq_getElem_cons hk,List.map_cons,List.zipWith_cons_cons];simp [pairB]
  ·rw [decide_eq_false (by omega:¬((i:Nat):Int)<((v.FKeys.l.length:Nat):Int)),cond_false,List.drop_of_length_le (by omega)];exact⟨nl,by simp⟩
theorem rval_n (n:Nat):∀v:Z7,v.sz<n->v.sz<=1048576->v.wf->(∃m,BlV m v)->Z75_qn n v=some (wv v):=by
 induction n with
 | zero=>intro v h; omega
 | succ n ih =>
  intro v hn hs hw ⟨m,hb⟩;cases m with
  | zero=>exact hb.elim
  | succ m =>
  have hd:=v.sz_def;have ht:Bs.sz v.FText=v.FText.length+1:=rfl;have hk:Sl.sz Bs.sz v.FKeys=1+(v.FKeys.l.map Bs.sz).sum:=rfl;have hi:Sl.sz Z7.sz v.FItems=1+(v.FItems.l.map Z7.sz).sum:=rfl;have hwf:=(Z7.wf_iff v).1 hw;have hrec:∀x∈v.FItems.l,Z75_qn n x=some (wv x):=fun x hx=>ih x (by have:=Z7.item_lt hx; omega) (by have:=Z7.item_lt hx; omega) (hwf.2.2.2.1.2.2 x hx) ⟨m,hb.2 x hx⟩;have hbl:∀x∈v.FItems.l,(wv x).length+4<=32*x.sz:=fun x hx=>wv_len (x.sz+1) x (by omega) (hwf.2.2.2.1.2.2 x hx)
  have hit:((v.FItems.l.map wv).map fun x=>x.length+4).sum<=32*(v.FItems.l.map Z7.sz).sum:=by
   rw [List.map_map,<- mul_sum];exact sum_le _ _ _ fun x hx=>hbl x hx
  have hi2:((v.FItems.l.map wv).map fun x=>x.length+2).sum<=((v.FItems.l.map wv).map fun x=>x.length+4).sum:=sum_le _ _ _ fun _ _=>by omega
  have hz2:=zip_sum v.FKeys.l (v.FItems.l.map wv);have hj:=join_len (v.FItems.l.map wv);have hz:=join_len (List.zipWith pairB v.FKeys.l (v.FItems.l.map wv));have hc:=count_le v.FItems.l;rw [Z75_qn,wv_eq];by_cases c1:v.FKind=1
  ·rw [if_pos c1,decide_eq_true c1,cond_true];rcases hb.1 c1 with c|c
   ·rw [if_pos c,decide_eq_false (by omega:¬v.FInt=1),cond_false]
   ·rw [if_neg (by omega),decide_eq_true c,cond_true]
  rw [if_neg c1,decide_eq_false c1,cond_false];by_cases c2:v.FKind=2
  ·rw [if_pos c2,decide_eq_true c2,cond_true,decimal_eq hwf.2.1.1 hwf.2.1.2,Option.bind_some]
  rw [if_neg c2,decide_eq_false c2,cond_false];by_cases c3:v.FKind=3
  ·rw [if_pos c3,decide_eq_true c3,cond_true,rquote_eq _ (by omega),Option.bind_some]
  rw [if_neg c3,decide_eq_false c3,cond_false];by_cases c4:v.FKind=4
  ·rw [if_pos c4,decide_eq_true c4,cond_true]
  rw [if_neg c4,decide_eq_false c4,cond_false];by_cases c7:v.FKind=7
  ·rw [if_pos c7,decide_eq_true c7,cond_true,catC_ok (by simp only [List.length_cons,List.length_nil]; omega),Option.bind_some]; rfl
  rw [if_neg c7,decide_eq_false c7,cond_false];by_cases c5:v.FKind=5
  ·obtain⟨nl,e⟩:=r36_eq (rec:=Z75_qn n) v.FItems.l [] true hrec (by simp only [List.length_nil]; omega);rw [if_pos c5,decide_eq_true c5,cond_true,show (Sl.nil:Sl Bs)=⟨true,[]⟩ from rfl,e,Option.bind_some];simp only [Ab.on,List.nil_append];rw [rjoin_eq (by omega),Option.bind_some,catC_ok (by simp only [List.length_cons,List.length_nil]; omega),Option.bind_some,catC_ok (by simp only [List.length_append,List.length_cons,List.length_nil]; omega),Option.bind_some]
   simp
  rw [if_neg c5,decide_eq_false c5,cond_false];by_cases c6:v.FKind=6
  ·obtain⟨nl,e⟩:=r57_eq (v:=v) (rec:=Z75_qn n) (fun x hx=>by have:=Sl.mem_le (f:=Bs.sz) hx; have:Bs.sz x=x.length+1:=rfl; omega) v.FItems.l 0 [] true (fun x hx=>⟨hrec x hx,by have:=hbl x hx; have:=Z7.item_lt hx; omega⟩) (by simp only [List.length_nil]; omega);rw [if_pos c6,decide_eq_true c6,cond_true,show (Sl.nil:Sl Bs)=⟨true,[]⟩ from rfl,e,Option.bind_some];simp only [Ab.on,List.nil_append,List.drop_zero]
   rw [rjoin_eq (by omega),Option.bind_some,catC_ok (by simp only [List.length_cons,List.length_nil]; omega),Option.bind_some,catC_ok (by simp only [List.length_append,List.length_cons,List.length_nil]; omega),Option.bind_some];simp
  rw [if_neg c6,decide_eq_false c6,cond_false]
theorem rval_eq {v:Z7}(hs:v.sz<=1048576) (hw:v.wf) (hb:∃m,BlV m v):Z75_q v=some (wv v):=rval_n F0 v (by rw [F0_eq]; omega) hs hw hb
theorem rprint_n (N:Bs) (hN:N.length<=1048576):∀(n:Nat) (W:List Int) (nl:Bool),W.length<n->W.length<=1048576->Z59_qn n ⟨N,⟨nl,W⟩⟩=some (prt N W)
 | 0,_,_,h,_=>by omega
 | n+1,[],nl,_,_=>by
  rw [Z59_qn];show some N=_;simp [prt,cnt,cls]
 | n+1,w::r,nl,h,h2=>by
  simp only [List.length_cons] at h h2;have ih:=rprint_n N hN n r false (by omega) (by omega);have hl:=prt_len (N:=N) (W:=r);have hcut:Z62_q ⟨N,⟨nl,w::r⟩⟩=some ⟨N,⟨false,r⟩⟩:=cut11 (t:=⟨N,⟨nl,w::r⟩⟩) (by simp only [List.length_cons]; omega) (by simp only [List.length_cons]; omega);have hnn:Z57_q ⟨N,⟨nl,w::r⟩⟩=decide (w=1):=by
   unfold Z57_q;simp [Ab.on]
  rw [Z59_qn,hnn];simp only [Ab.on];by_cases hw:w=1
  ·rw [decide_eq_true hw,cond_true,hcut,Option.bind_some,ih,Option.bind_some,catC_ok (by simp only [List.length_cons,List.length_nil]; omega)];simp [prt,cnt,cls,hw]
  ·rw [decide_eq_false hw,cond_false];rw [show decide ((0:Int)<(((w::r:List Int).length:Nat):Int))=true from decide_eq_true (by simp only [List.length_cons]; omega),cond_true,hcut,Option.bind_some,ih,Option.bind_some,catC_ok (by simp only [List.length_cons,List.length_nil]; omega),Option.bind_some,catC_ok (by simp only [List.length_append,List.length_cons,List.length_nil]; omega)];simp only [prt,cnt,cls,hw,if_false,Option.bind_some]
   rw [Nat.add_comm 1,List.replicate_succ];simp
theorem rprint_is {t:TRef}(h:ROk t):Z59_q t=some (prX t):=rprint_n t.FName h.n F0 t.FWraps.l t.FWraps.nl (by rw [F0_eq]; have:=h.w; omega) h.w
end Go.Proofs

namespace Go.Proofs
open Go Go.Ab
theorem less_irr:∀x:Bs,Op.bytesLess x x=false
 | []=>by simp [Op.bytesLess]
 | a::x=>by rw [Op.bytesLess,less_irr x]; simp
theorem rints (a b:Int):Z48_q a b=0↔a=b:=by
 unfold Z48_q;by_cases h1:a<b
 ·rw [decide_eq_true h1,cond_true]; exact⟨fun h=>(by cases h),fun h=>by omega⟩
 ·rw [decide_eq_false h1,cond_false];by_cases h2:b<a
  ·rw [decide_eq_true h2,cond_true]; exact⟨fun h=>(by cases h),fun h=>by omega⟩
  ·rw [decide_eq_false h2,cond_false]; exact⟨fun _=>by omega,fun _=>rfl⟩
theorem rstrings (a b:Bs):Z51_q a b=0↔a=b:=by
 unfold Z51_q;cases h1:Op.bytesLess a b
 ·rw [cond_false,Bool.false_or];by_cases h2:a=b
  ·rw [beq_iff_eq.mpr h2]; exact⟨fun _=>h2,fun _=>rfl⟩
  ·rw [show (a==b)=false from beq_eq_false_iff_ne.mpr h2]; exact⟨fun h=>(by cases h),fun h=>absurd h h2⟩
 ·rw [cond_true];exact⟨fun h=>(by cases h),fun h=>by rw [h,less_irr] at h1; cases h1⟩
theorem rkey (v:Z7) (i:Nat):Z49 v (i:Int)=some (v.FKeys.l.getD i []):=by
 rw [Z49_eq]; exact key_eq v i
theorem l12_spec {v w:Z7}{rec:Z7->Z7->Option Int}{n:Nat}(hrec:∀x∈v.FItems.l,∀y∈w.FItems.l,∃c,rec x y=some c/\(c=0↔EqV n x y)) (hl:v.FItems.l.length<=1048576) :
  ∀(f i:Nat) (c:Int),i<=min v.FItems.l.length w.FItems.l.length->min v.FItems.l.length w.FItems.l.length-i<f ->
   ∃z,Z43_l12 v w rec f c (i:Int)=some z/\(z=0↔(c=0/\v.FItems.l.length=w.FItems.l.length/\∀j,i<=j->j<v.FItems.l.length->AtR (EqV n) v w j))
 | 0,_,_,_,h=>by omega
 | f+1,i,c,h1,h2=>by
  rw [Z43_l12];by_cases hc:c=0
  ·rw [decide_eq_true hc,cond_true];by_cases hi:i<min v.FItems.l.length w.FItems.l.length
   ·have k1:i<v.FItems.l.length:=by omega
    have k2:i<w.FItems.l.length:=by omega
    have x1:idxC v.FItems.l (i:Int)=some v.FItems.l[i]:=by unfold idxC; rw [if_pos (by omega),Int.toNat_natCast,List.getElem?_eq_getElem k1]
    have x2:idxC w.FItems.l (i:Int)=some w.FItems.l[i]:=by unfold idxC; rw [if_pos (by omega),Int.toNat_natCast,List.getElem?_eq_getElem k2]
    have ha:addC (i:Int) 1=some ((i+1:Nat):Int):=by rw [addC_ok (by omega)]; rfl
    have g:(decide (((v.FItems.l.length:Nat):Int)<=(i:Int))||decide (((w.FItems.l.length:Nat):Int)<=(i:Int)))=false:=by
     rw [Bool.or_eq_false_iff,decide_eq_false_iff_not,decide_eq_false_iff_not]; omega
    rw [g,cond_false,rkey,Option.bind_some,rkey,Option.bind_some,Z51_eq,Option.bind_some];have hk:=rstrings (v.FKeys.l.getD i []) (w.FKeys.l.getD i []);by_cases c0:Z51_q (v.FKeys.l.getD i []) (w.FKeys.l.getD i [])=0
    ·rw [decide_eq_true c0,cond_true,x1,Option.bind_some,x2,Option.bind_some];obtain⟨d,e1,e2⟩:=hrec _ (List.getElem_mem k1) _ (List.getElem_mem k2);rw [e1,Option.bind_some];unfold Z43_j18;rw [ha,Option.bind_some];obtain⟨z,z1,z2⟩:=l12_spec hrec hl f (i+1) d (by omega) (by omega);refine⟨z,z1,z2.trans ⟨fun⟨u0,u1,u2⟩=>⟨hc,u1,fun j j1 j2=>?_⟩,fun⟨_,u1,u2⟩=>⟨?_,u1,fun j j1 j2=>u2 j (by omega) j2⟩⟩⟩
     ·rcases Nat.lt_or_ge i j with j3|j3
      ·exact u2 j j3 j2
      ·obtain rfl:j=i:=by omega
       exact⟨hk.1 c0,_,_,List.getElem?_eq_getElem k1,List.getElem?_eq_getElem k2,e2.1 u0⟩
     ·obtain⟨_,x,y,g1,g2,g3⟩:=u2 i (Nat.le_refl _) k1;rw [List.getElem?_eq_getElem k1] at g1; rw [List.getElem?_eq_getElem k2] at g2;cases g1; cases g2;exact e2.2 g3
    ·rw [decide_eq_false c0,cond_false];unfold Z43_j18;rw [ha,Option.bind_some];obtain⟨z,z1,z2⟩:=l12_spec hrec hl f (i+1) (Z51_q (v.FKeys.l.getD i []) (w.FKeys.l.getD i [])) (by omega) (by omega);exact⟨z,z1,z2.trans ⟨fun⟨u0,_⟩=>absurd u0 c0,fun⟨_,u1,u2⟩=>absurd (hk.2 (u2 i (Nat.le_refl _) k1).1) c0⟩⟩
   ·have g:(decide (((v.FItems.l.length:Nat):Int)<=(i:Int))||decide (((w.FItems.l.length:Nat):Int)<=(i:Int)))=true:=by
     rw [Bool.or_eq_true,decide_eq_true_eq,decide_eq_true_eq]; omega
    rw [g,cond_true,Z48_eq,Option.bind_some];have hi2:=rints ((v.FItems.l.length:Nat):Int) ((w.FItems.l.length:Nat):Int);exact⟨_,rfl,hi2.trans ⟨fun h=>⟨hc,by omega,fun j j1 j2=>by omega⟩,fun⟨_,h,_⟩=>by rw [h]⟩⟩
  ·rw [decide_eq_false hc,cond_false];exact⟨c,rfl,⟨fun h=>absurd h hc,fun⟨h,_⟩=>h⟩⟩
theorem rcmpV (n:Nat):∀v w:Z7,v.sz<n->v.sz<=1048576->∃c,Z43_n n v w=some c/\(c=0↔EqV n v w):=by
 induction n with
 | zero=>intro v w h; omega
 | succ n ih =>
  intro v w hn hs;have hd:=v.sz_def;have hi:Sl.sz Z7.sz v.FItems=1+(v.FItems.l.map Z7.sz).sum:=rfl;have hl:=Sl.len_le (f:=Z7.sz) v.FItems (fun x=>x.pos);have j6:∀c:Int,∃z,Z43_j6 v w (Z43_n n) c=some z/\(z=0↔(c=0/\v.FItems.l.length=w.FItems.l.length/\∀j,0<=j->j<v.FItems.l.length->AtR (EqV n) v w j)):=fun c =>
   l12_spec (v:=v) (w:=w) (rec:=Z43_n n) (n:=n) (fun x hx y _=>ih x y (by have:=Z7.item_lt hx; omega) (by have:=Z7.item_lt hx; omega)) (by omega) F0 0 c (Nat.zero_le _) (by rw [F0_eq]; omega)
  have j4:∀c:Int,∃z,Z43_j4 v w (Z43_n n) c=some z/\(z=0↔(c=0/\v.FText=w.FText/\v.FItems.l.length=w.FItems.l.length/\∀j,0<=j->j<v.FItems.l.length->AtR (EqV n) v w j)):=by
   intro c;unfold Z43_j4;by_cases hc:c=0
   ·rw [decide_eq_true hc,cond_true,Z51_eq,Option.bind_some];obtain⟨z,z1,z2⟩:=j6 (Z51_q v.FText w.FText);exact⟨z,z1,z2.trans (by rw [rstrings]; exact⟨fun⟨a,b⟩=>⟨hc,a,b⟩,fun⟨_,a,b⟩=>⟨a,b⟩⟩)⟩
   ·rw [decide_eq_false hc,cond_false];obtain⟨z,z1,z2⟩:=j6 c;exact⟨z,z1,z2.trans ⟨fun⟨a,_⟩=>absurd a hc,fun⟨a,_⟩=>absurd a hc⟩⟩
  rw [Z43_n,Z48_eq,Option.bind_some];have hk:=rints v.FKind w.FKind;have hn:=rints v.FInt w.FInt;by_cases c1:Z48_q v.FKind w.FKind=0
  ·rw [decide_eq_true c1,cond_true,Z48_eq,Option.bind_some];obtain⟨z,z1,z2⟩:=j4 (Z48_q v.FInt w.FInt);exact⟨z,z1,z2.trans ⟨fun⟨a,b,c,d⟩=>⟨hk.1 c1,hn.1 a,b,c,d⟩,fun⟨_,a,b,c,d⟩=>⟨hn.2 a,b,c,d⟩⟩⟩
  ·rw [decide_eq_false c1,cond_false];obtain⟨z,z1,z2⟩:=j4 (Z48_q v.FKind w.FKind);exact⟨z,z1,z2.trans ⟨fun⟨a,_⟩=>absurd a c1,fun⟨a,_⟩=>absurd (hk.2 a) c1⟩⟩
theorem rsame_is {v w:Z7}(hv:v.sz<=1048576):Z46_q v w=some (vsX v w):=by
 obtain⟨c,e1,e2⟩:=rcmpV F0 v w (by rw [F0_eq]; omega) hv;have e:Z46_q v w=some (decide (c=0)):=by unfold Z46_q Z43; rw [e1]; rfl
 rw [e]
 congr 1
 rw [Bool.eq_iff_iff,decide_eq_true_iff,(vsame hv).2];exact e2
end Go.Proofs

namespace Go.Proofs
open Go Go.Ab
def BlI (x:Z5):Prop:=x.FHas=true->∃m,BlV m x.FDefault
theorem RtI.bl {x:Z5}(h:RtI x):BlI x:=fun hx=>⟨F0,whole_bl F0 _ true (literal_is (h hx))⟩
def RC (o:Option (Sl Z2)) (s X:List Z2):Prop:=s.length+X.length<=maxD->∃nl,o=some ⟨nl,s++X⟩
theorem RC.pure (nl:Bool) (s:List Z2):RC (some ⟨nl,s⟩) s []:=fun _=>⟨nl,by simp⟩
theorem RC.bind {o:Option (Sl Z2)}{f:Sl Z2->Option (Sl Z2)}{s X Y:List Z2}(h:RC o s X) (hf:∀nl,RC (f ⟨nl,s++X⟩) (s++X) Y):RC (o.bind f) s (X++Y):=fun hb=>by
 rw [List.length_append] at hb;obtain⟨nl,e⟩:=h (by omega);obtain⟨nl2,e2⟩:=hf nl (by rw [List.length_append]; omega);exact⟨nl2,by rw [e,Option.bind_some,e2,List.append_assoc]⟩
theorem RC.id {o:Option (Sl Z2)}{s X:List Z2}(h:RC o s X):RC (o.bind fun x=>some x) s X:=fun hb=>by
 obtain⟨nl,e⟩:=h hb;exact⟨nl,by rw [e]; rfl⟩
theorem RC.of {o:Option (Sl Z2)}{s X Y:List Z2}(h:RC o s X) (e:X=Y):RC o s Y:=e▸h
theorem radd (nl:Bool) (s:List Z2) (x:Z2):RC (appC 88 (⟨nl,s⟩:Sl Z2) (⟨false,[x]⟩:Sl Z2)) s [x]:=fun hb=>⟨_,app88 (s:=⟨nl,s⟩) (r:=⟨false,[x]⟩) hb⟩
theorem rapp (nl:Bool) (s:List Z2){o:Option (Sl Z2)}{X:List Z2}(h:RC o [] X){f:Sl Z2->Option (Sl Z2)}{Y:List Z2}(hf:∀nl,RC (f ⟨nl,s++X⟩) (s++X) Y):RC (o.bind fun x=>(appC 88 (⟨nl,s⟩:Sl Z2) x).bind f) s (X++Y):=fun hb=>by
 rw [List.length_append] at hb;obtain⟨n1,e1⟩:=h (by simp only [List.length_nil]; omega);rw [e1,Option.bind_some,List.nil_append];obtain⟨n2,e2⟩:∃n2,appC 88 (⟨nl,s⟩:Sl Z2) (⟨n1,X⟩:Sl Z2)=some ⟨n2,s++X⟩:=⟨_,app88 (s:=⟨nl,s⟩) (r:=⟨n1,X⟩) (by simp only []; omega)⟩;obtain⟨n3,e3⟩:=hf n2 (by rw [List.length_append]; omega);exact⟨n3,by rw [e2,Option.bind_some,e3,List.append_assoc]⟩
theorem rinputI (l:List Z5) (s:Bs):Z80_q6 s l=(match l.find? (fun t=>t.FName==s) with|some t=>Sum.inr (t,true)|none=>Sum.inl ()):=by
 induction l with
 | nil=>rfl
 | cons a r ih =>
  rw [Z80_q6,List.find?_cons];simp only [Ab.on];cases a.FName==s
  ·exact ih
  ·rfl
theorem rinputOf_is (t:Sl Z5) (s:Bs):(∃y,t.l.find? (fun t=>t.FName==s)=some y/\Z80_q t s=(y,true))\/(t.l.find? (fun t=>t.FName==s)=none/\(Z80_q t s).2=false):=by
 unfold Z80_q;simp only [Ab.on,rinputI];cases t.l.find? (fun t=>t.FName==s) with
 | none=>exact .inr ⟨rfl,rfl⟩
 | some y=>exact .inl ⟨y,rfl,rfl⟩
theorem rfieldI (l:List Z4) (s:Bs):Z78_q6 s l=(match l.find? (fun t=>t.FName==s) with|some t=>Sum.inr (t,true)|none=>Sum.inl ()):=by
 induction l with
 | nil=>rfl
 | cons a r ih =>
  rw [Z78_q6,List.find?_cons];simp only [Ab.on];cases a.FName==s
  ·exact ih
  ·rfl
theorem rfieldOf_is (t:TDef) (s:Bs):(∃y,t.FFields.l.find? (fun t=>t.FName==s)=some y/\Z78_q t s=(y,true))\/(t.FFields.l.find? (fun t=>t.FName==s)=none/\(Z78_q t s).2=false):=by
 unfold Z78_q;simp only [Ab.on,rfieldI];cases t.FFields.l.find? (fun t=>t.FName==s) with
 | none=>exact .inr ⟨rfl,rfl⟩
 | some y=>exact .inl ⟨y,rfl,rfl⟩
theorem rfindI (l:List TDef) (s:Bs):Z79_q6 s l=(match l.find? (fun t=>t.FName==s) with|some t=>Sum.inr (t,true)|none=>Sum.inl ()):=by
 induction l with
 | nil=>rfl
 | cons a r ih =>
  rw [Z79_q6,List.find?_cons];simp only [Ab.on];cases a.FName==s
  ·exact ih
  ·rfl
theorem rfind_is (d:TDoc) (s:Bs):(∃y,d.FDefs.l.find? (fun t=>t.FName==s)=some y/\Z79_q d s=(y,true))\/(d.FDefs.l.find? (fun t=>t.FName==s)=none/\(Z79_q d s).2=false):=by
 unfold Z79_q;simp only [Ab.on,rfindI];cases d.FDefs.l.find? (fun t=>t.FName==s) with
 | none=>exact .inr ⟨rfl,rfl⟩
 | some y=>exact .inl ⟨y,rfl,rfl⟩
theorem rsameAux (a1:Sl Int):∀(l:List Int) (s:Nat),Z63_q11 a1 l s=Z127_q12 a1 l s
 | [],_=>rfl
 | a::r,s=>by
  rw [Z63_q11,Z127_q12];simp only [Ab.on,rsameAux a1 r (s+1)]
theorem rsameR (a b:TRef):Z61_q a b=some (saV a b):=by
 have h:=same_is a b;unfold Z160_q at h;unfold Z61_q;rw [<- h]
 congr 1
 unfold Z63_q Z127_q;rw [rsameAux];all_goals rfl
theorem standard_is {x:Z5}(h:IOk x) (hb:BlI x):Z115_q x=some (deX x):=by
 unfold Z115_q deX;cases hh:x.FHas
 ·rfl
 ·rw [Bool.not_true,cond_false,cond_false,rval_eq h.s h.f (hb hh)]; rfl
theorem written_is {x:Z5}(h:IOk x) (hb:BlI x):Z117_q x=some (itX x):=by
 have h1:=prX_len h.r;have h2:=(def_is h).2;unfold Z117_q itX;rw [rprint_is h.r];cases hh:x.FHas
 ·rfl
 ·have e:deX x=wv x.FDefault:=by unfold deX; rw [hh]; rfl
  rw [Bool.not_true,cond_false,cond_false,Option.bind_some,catC_ok (by simp only [List.length_cons,List.length_nil]; omega),Option.bind_some,rval_eq h.s h.f (hb hh),Option.bind_some,e,catC_ok (by rw [e] at h2; simp only [List.length_append,List.length_cons,List.length_nil]; omega),Option.bind_some]
structure AtK (c:Z2) (n:Bs) (K:Z1) (p:Bs->Bs×Bs):Prop where
 g:∀s a b,Z109_q c K.Fgone s a b=Z2.mk K.Fgone n (p s).1 (p s).2 a b
 a:∀s a b,Z109_q c K.Fadd s a b=Z2.mk K.Fadd n (p s).1 (p s).2 a b
 t:∀s a b,Z109_q c K.Ftyp s a b=Z2.mk K.Ftyp n (p s).1 (p s).2 a b
 d:∀s a b,Z109_q c K.Fdef s a b=Z2.mk K.Fdef n (p s).1 (p s).2 a b
def tup (K:Z1):Int×Int×Int×Int:=(K.Fgone,K.Fadd,K.Ftyp,K.Fdef)
theorem rinputs30 {c:Z2}{n:Bs}{K:Z1}{p:Bs->Bs×Bs}(hp:AtK c n K p){B:Sl Z5}(hB:∀y∈B.l,IOk y/\BlI y):∀(A:List Z5) (nl:Bool) (s:List Z2),(∀x∈A,IOk x/\BlI x) ->
  RC (Z112_q30 B c (tup K) A ⟨nl,s⟩) s (dif Z5.FName (inW n K p) (inG n K p) A B.l)
 | [],nl,s,_=>by rw [Z112_q30]; exact RC.pure nl s
 | x::r,nl,s,hA=>by
  obtain⟨hx,bx⟩:=hA x (.head _);have ih:=fun nl s=>rinputs30 hp hB r nl s fun y hy=>hA y (.tail _ hy);rw [Z112_q30];simp only [Ab.on];unfold dif at ih ⊢;rw [List.flatMap_cons];refine RC.bind ?_ fun nl=>ih nl _;rcases rinputOf_is B x.FName with ⟨y,e1,e2⟩|⟨e1,e2⟩
  ·obtain⟨hy,by_⟩:=hB y (List.mem_of_find?_eq_some e1);rw [e1,e2];simp only [Bool.not_true,cond_false];rw [rsameR,Option.bind_some];unfold inW;refine RC.bind ?_ fun nl=>?_
   ·cases saV x.FType y.FType
    ·rw [Bool.not_false,cond_true,cond_true,show idxC ([(tup K).1,(tup K).2.1,(tup K).2.2.1,(tup K).2.2.2]:List Int) (2:Int)=some K.Ftyp from rfl,Option.bind_some,rprint_is hx.r,Option.bind_some,rprint_is hy.r,Option.bind_some,hp.t];exact(radd _ _ _).id
    ·exact RC.pure _ _
   ·rw [rsame_is hx.s];generalize hS:(s++bif !saV x.FType y.FType then [Z2.mk K.Ftyp n (p x.FName).1 (p x.FName).2 (prX x.FType) (prX y.FType)] else [])=S;have fin:∀b:Bool,RC (bif b then((idxC ([(tup K).1,(tup K).2.1,(tup K).2.2.1,(tup K).2.2.2]:List Int) (3:Int)).bind fun x56=>(Z115_q x).bind fun x57=>(Z115_q y).bind fun x58=>(appC 88 (⟨nl,S⟩:Sl Z2) (⟨false,[Z109_q c x56 x.FName x57 x58]⟩:Sl Z2)).bind fun x60=>some x60) else(some ⟨nl,S⟩)) S
      (bif b then [Z2.mk K.Fdef n (p x.FName).1 (p x.FName).2 (deX x) (deX y)] else []):=by
     intro b;cases b
     ·exact RC.pure _ _
     ·rw [cond_true,cond_true,show idxC ([(tup K).1,(tup K).2.1,(tup K).2.2.1,(tup K).2.2.2]:List Int) (3:Int)=some K.Fdef from rfl,Option.bind_some,standard_is hx bx,Option.bind_some,standard_is hy by_,Option.bind_some,hp.d];exact(radd _ _ _).id
    have e3:∀{k:Bool->Option (Sl Z2)},guardO (!!(x.FHas==y.FHas)&&x.FHas) (some (vsX x.FDefault y.FDefault)) false k=k ((!!(x.FHas==y.FHas)&&x.FHas)&&vsX x.FDefault y.FDefault):=by
     intro k;cases (!!(x.FHas==y.FHas)&&x.FHas)<;>rfl
    rw [e3];refine(fin _).of ?_;cases x.FHas<;>cases y.FHas<;>cases vsX x.FDefault y.FDefault<;>rfl
  ·rw [e1,e2];simp only [Bool.not_false,cond_true];rw [show idxC ([(tup K).1,(tup K).2.1,(tup K).2.2.1,(tup K).2.2.2]:List Int) (0:Int)=some K.Fgone from rfl,Option.bind_some,written_is hx bx,Option.bind_some,hp.g];exact(radd _ _ _).id
theorem rinputs9 {c:Z2}{n:Bs}{K:Z1}{p:Bs->Bs×Bs}(hp:AtK c n K p) (B:Sl Z5):∀(A:List Z5) (nl:Bool) (s:List Z2),(∀x∈A,IOk x/\BlI x) ->
  RC (Z112_q9 B c (tup K) A ⟨nl,s⟩) s (lon Z5.FName (inN n K p) A B.l)
 | [],nl,s,_=>by rw [Z112_q9]; exact RC.pure nl s
 | x::r,nl,s,hA=>by
  obtain⟨hx,bx⟩:=hA x (.head _);have ih:=fun nl s=>rinputs9 hp B r nl s fun y hy=>hA y (.tail _ hy);rw [Z112_q9];simp only [Ab.on];unfold lon at ih ⊢;rw [List.flatMap_cons];refine RC.bind ?_ fun nl=>ih nl _;rcases rinputOf_is B x.FName with ⟨y,e1,e2⟩|⟨e1,e2⟩
  ·rw [e1,e2]; exact RC.pure _ _
  ·rw [e1,e2];simp only [Bool.not_false,cond_true];rw [show idxC ([(tup K).1,(tup K).2.1,(tup K).2.2.1,(tup K).2.2.2]:List Int) (1:Int)=some K.Fadd from rfl,Option.bind_some,written_is hx bx,Option.bind_some,hp.a];exact(radd _ _ _).id
theorem rinputs_is {c:Z2}{n:Bs}{K:Z1}{p:Bs->Bs×Bs}(hp:AtK c n K p){A B:Sl Z5}(hA:∀y∈A.l,IOk y/\BlI y) (hB:∀y∈B.l,IOk y/\BlI y):RC (Z112_q A B c (tup K)) [] (inX n K p A.l B.l):=by
 unfold Z112_q inX;refine RC.bind (rinputs30 hp hB A.l true [] hA) fun nl=>?_;simp only [Ab.on];exact(rinputs9 hp A B.l nl _ hB).id
theorem at7 (n f:Bs):AtK (Z2.mk (0:Int) n f ([]:Bs) ([]:Bs) ([]:Bs)) n K7 (fun s=>(f,s)):=⟨fun _ _ _=>rfl,fun _ _ _=>rfl,fun _ _ _=>rfl,fun _ _ _=>rfl⟩
theorem at13 (n:Bs):AtK (Z2.mk (0:Int) n ([]:Bs) ([]:Bs) ([]:Bs) ([]:Bs)) n K13 (fun s=>(s,[])):=⟨fun _ _ _=>rfl,fun _ _ _=>rfl,fun _ _ _=>rfl,fun _ _ _=>rfl⟩
structure FOb (f:Z4):Prop where
 r:ROk f.FType
 a:∀x∈f.FArgs.l,IOk x/\BlI x
theorem rfields28 {t u:TDef}(hB:∀y∈u.FFields.l,FOb y):∀(A:List Z4) (nl:Bool) (s:List Z2),(∀x∈A,FOb x) ->
  RC (Z110_q28 t u A ⟨nl,s⟩) s (dif Z4.FName (fdW t.FName) (fdG t.FName) A u.FFields.l)
 | [],nl,s,_=>by rw [Z110_q28]; exact RC.pure nl s
 | x::r,nl,s,hA=>by
  have hx:=hA x (.head _);have ih:=fun nl s=>rfields28 (t:=t) hB r nl s fun y hy=>hA y (.tail _ hy);rw [Z110_q28];simp only [Ab.on];unfold dif at ih ⊢;rw [List.flatMap_cons];refine RC.bind ?_ fun nl=>ih nl _;rcases rfieldOf_is u x.FName with ⟨y,e1,e2⟩|⟨e1,e2⟩
  ·have hy:=hB y (List.mem_of_find?_eq_some e1);rw [e1,e2];simp only [Bool.not_true,cond_false];rw [rsameR,Option.bind_some];unfold fdW;refine RC.bind ?_ fun nl=>?_
   ·cases saV x.FType y.FType
    ·rw [Bool.not_false,cond_true,cond_true,rprint_is hx.r,Option.bind_some,rprint_is hy.r,Option.bind_some];exact(radd _ _ _).id
    ·exact RC.pure _ _
   ·have:=rapp nl (s++bif !saV x.FType y.FType then [Z2.mk 6 t.FName x.FName [] (prX x.FType) (prX y.FType)] else []) (rinputs_is (at7 t.FName x.FName) hx.a hy.a) (f:=fun z=>some z) (Y:=[]) fun nl=>RC.pure _ _;rw [List.append_nil] at this;exact this
  ·rw [e1,e2];simp only [Bool.not_false,cond_true];rw [rprint_is hx.r,Option.bind_some];exact(radd _ _ _).id
theorem rfields9 (t:TDef):∀(A:List Z4) (nl:Bool) (s:List Z2),(∀x∈A,FOb x) ->
  RC (Z110_q9 t A ⟨nl,s⟩) s (lon Z4.FName (fdN t.FName) A t.FFields.l)
 | [],nl,s,_=>by rw [Z110_q9]; exact RC.pure nl s
 | x::r,nl,s,hA=>by
  have hx:=hA x (.head _);have ih:=fun nl s=>rfields9 t r nl s fun y hy=>hA y (.tail _ hy);rw [Z110_q9];simp only [Ab.on];unfold lon at ih ⊢;rw [List.flatMap_cons];refine RC.bind ?_ fun nl=>ih nl _;rcases rfieldOf_is t x.FName with ⟨y,e1,e2⟩|⟨e1,e2⟩
  ·rw [e1,e2]; exact RC.pure _ _
  ·rw [e1,e2];simp only [Bool.not_false,cond_true];rw [rprint_is hx.r,Option.bind_some];exact(radd _ _ _).id
structure TOb (t:TDef):Prop where
 f:∀x∈t.FFields.l,FOb x
 i:∀x∈t.FInputs.l,IOk x/\BlI x
theorem rfields_is {t u:TDef}(ht:TOb t) (hu:TOb u):RC (Z110_q t u) [] (fdX t.FName t.FFields.l u.FFields.l):=by
 unfold Z110_q fdX;refine RC.bind (rfields28 hu.f t.FFields.l true [] ht.f) fun nl=>?_;simp only [Ab.on];exact(rfields9 t u.FFields.l nl _ hu.f).id
theorem rmember_is (b:Sl Z6) (n:Bs):Z113_q b n=(b.l.map Z6.FName).contains n:=by
 have h:∀l:List Z6,(match Z113_q5 n l with|.inl _=>false|.inr e=>e)=(l.map Z6.FName).contains n:=by
  intro l;induction l with
  | nil=>rfl
  | cons a r ih =>
   rw [Z113_q5,List.map_cons,List.contains_cons];simp only [Ab.on];by_cases e:a.FName=n
   ·rw [e]; simp
   ·rw [show (a.FName==n)=false from beq_eq_false_iff_ne.mpr e,show (n==a.FName)=false from beq_eq_false_iff_ne.mpr fun h=>e h.symm,cond_false,Bool.false_or]; exact ih
 rw [<- h];unfold Z113_q;simp only [Ab.on];cases Z113_q5 n b.l<;>rfl
theorem rin_is (b:Sl Bs) (n:Bs):Z111_q b n=b.l.contains n:=by
 have h:∀l:List Bs,(match Z111_q5 n l with|.inl _=>false|.inr e=>e)=l.contains n:=by
  intro l;induction l with
  | nil=>rfl
  | cons a r ih =>
   rw [Z111_q5,List.contains_cons];simp only [Ab.on];by_cases e:a=n
   ·rw [e]; simp
   ·rw [show (a==n)=false from beq_eq_false_iff_ne.mpr e,show (n==a)=false from beq_eq_false_iff_ne.mpr fun h=>e h.symm,cond_false,Bool.false_or]; exact ih
 rw [<- h];unfold Z111_q;simp only [Ab.on];cases Z111_q5 n b.l<;>rfl
theorem mis_cons (a:Bs) (r b:List Bs):mis (a::r) b=(bif b.contains a then [] else [a])++mis r b:=by
 unfold mis;rw [List.filter_cons];cases b.contains a<;>rfl
theorem rm64 (t u:TDef):∀(l:List Z6) (nl:Bool) (s:List Z2),RC (Z114_q64 t u l ⟨nl,s⟩) s ((mis (l.map Z6.FName) (nam u)).map fun x=>Z2.mk 11 t.FName x [] [] [])
 | [],nl,s=>by rw [Z114_q64]; exact RC.pure nl s
 | x::r,nl,s=>by
  rw [Z114_q64,List.map_cons,mis_cons,List.map_append];simp only [Ab.on,rmember_is];refine RC.bind ?_ fun nl=>rm64 t u r nl _;unfold nam;cases (u.FMembers.l.map Z6.FName).contains x.FName
  ·exact(radd _ _ _).id
  ·exact RC.pure _ _
theorem rm48 (t:TDef):∀(l:List Z6) (nl:Bool) (s:List Z2),RC (Z114_q48 t l ⟨nl,s⟩) s ((mis (l.map Z6.FName) (nam t)).map fun x=>Z2.mk 12 t.FName x [] [] [])
 | [],nl,s=>by rw [Z114_q48]; exact RC.pure nl s
 | x::r,nl,s=>by
  rw [Z114_q48,List.map_cons,mis_cons,List.map_append];simp only [Ab.on,rmember_is];refine RC.bind ?_ fun nl=>rm48 t r nl _;unfold nam;cases (t.FMembers.l.map Z6.FName).contains x.FName
  ·exact(radd _ _ _).id
  ·exact RC.pure _ _
theorem rm32 (t u:TDef):∀(l:List Bs) (nl:Bool) (s:List Z2),RC (Z114_q32 t u l ⟨nl,s⟩) s ((mis l u.FImplements.l).map fun x=>Z2.mk 17 t.FName [] [] x [])
 | [],nl,s=>by rw [Z114_q32]; exact RC.pure nl s
 | x::r,nl,s=>by
  rw [Z114_q32,mis_cons,List.map_append];simp only [Ab.on,rin_is];refine RC.bind ?_ fun nl=>rm32 t u r nl _;cases u.FImplements.l.contains x
  ·exact(radd _ _ _).id
  ·exact RC.pure _ _
theorem rm16 (t:TDef):∀(l:List Bs) (nl:Bool) (s:List Z2),RC (Z114_q16 t l ⟨nl,s⟩) s ((mis l t.FImplements.l).map fun x=>Z2.mk 18 t.FName [] [] [] x)
 | [],nl,s=>by rw [Z114_q16]; exact RC.pure nl s
 | x::r,nl,s=>by
  rw [Z114_q16,mis_cons,List.map_append];simp only [Ab.on,rin_is];refine RC.bind ?_ fun nl=>rm16 t r nl _;cases t.FImplements.l.contains x
  ·exact(radd _ _ _).id
  ·exact RC.pure _ _
theorem rest_is {t u:TDef}(ht:TOb t) (hu:TOb u):RC (Z114_q t u) [] ((mis (nam t) (nam u)).map (fun s=>Z2.mk 11 t.FName s [] [] [])++((mis (nam u) (nam t)).map (fun s=>Z2.mk 12 t.FName s [] [] [])++(inX t.FName K13 (fun s=>(s,[])) t.FInputs.l u.FInputs.l ++
  ((mis t.FImplements.l u.FImplements.l).map (fun s=>Z2.mk 17 t.FName [] [] s [])++(mis u.FImplements.l t.FImplements.l).map (fun s=>Z2.mk 18 t.FName [] [] [] s))))):=by
 unfold Z114_q;refine RC.bind (rm64 t u t.FMembers.l true []) fun nl=>?_;simp only [Ab.on];refine RC.bind (rm48 t u.FMembers.l nl _) fun nl=>?_;refine rapp nl _ (rinputs_is (at13 t.FName) ht.i hu.i) fun nl=>?_;refine RC.bind (rm32 t u t.FImplements.l nl _) fun nl=>?_;exact(rm16 t u.FImplements.l nl _).id
theorem rdiff56 (b:TDoc):∀(A:List TDef) (nl:Bool) (s:List Z2),RC (Z107_q56 b A ⟨nl,s⟩) s (lon TDef.FName tyG A b.FDefs.l)
 | [],nl,s=>by rw [Z107_q56]; exact RC.pure nl s
 | x::r,nl,s=>by
  have ih:=fun nl s=>rdiff56 b r nl s;rw [Z107_q56];simp only [Ab.on];unfold lon at ih ⊢;rw [List.flatMap_cons];refine RC.bind ?_ fun nl=>ih nl _;rcases rfind_is b x.FName with ⟨y,e1,e2⟩|⟨e1,e2⟩
  ·rw [e1,e2]; exact RC.pure _ _
  ·rw [e1,e2]; exact(radd _ _ _).id
theorem rdiff11 (b:TDoc):∀(A:List TDef) (nl:Bool) (s:List Z2),RC (Z107_q11 b A ⟨nl,s⟩) s (lon TDef.FName tyN A b.FDefs.l)
 | [],nl,s=>by rw [Z107_q11]; exact RC.pure nl s
 | x::r,nl,s=>by
  have ih:=fun nl s=>rdiff11 b r nl s;rw [Z107_q11];simp only [Ab.on];unfold lon at ih ⊢;rw [List.flatMap_cons];refine RC.bind ?_ fun nl=>ih nl _;rcases rfind_is b x.FName with ⟨y,e1,e2⟩|⟨e1,e2⟩
  ·rw [e1,e2]; exact RC.pure _ _
  ·rw [e1,e2]; exact(radd _ _ _).id
theorem rdiff30 {b:TDoc}(hb:∀t∈b.FDefs.l,TOb t):∀(A:List TDef) (nl:Bool) (s:List Z2),(∀t∈A,TOb t)->RC (Z107_q30 b A ⟨nl,s⟩) s (prs TDef.FName tyW A b.FDefs.l)
 | [],nl,s,_=>by rw [Z107_q30]; exact RC.pure nl s
 | x::r,nl,s,hA=>by
  have ih:=fun nl s=>rdiff30 hb r nl s fun y hy=>hA y (.tail _ hy);have hx:=hA x (.head _);rw [Z107_q30];simp only [Ab.on];unfold prs at ih ⊢;rw [List.flatMap_cons];refine RC.bind ?_ fun nl=>ih nl _;rcases rfind_is b x.FName with ⟨y,e1,e2⟩|⟨e1,e2⟩
  ·have hy:=hb y (List.mem_of_find?_eq_some e1);rw [e1,e2];simp only [Bool.true_and,cond_true];unfold tyW;cases decide (x.FKind=y.FKind)
   ·exact(radd _ _ _).id
   ·simp only [Bool.not_true,cond_false];unfold dfX;refine rapp nl s (rfields_is hx hy) fun nl=>?_;have:=rapp nl (s++fdX x.FName x.FFields.l y.FFields.l) (rest_is hx hy) (f:=fun z=>some z) (Y:=[]) fun nl=>RC.pure _ _;rw [List.append_nil] at this;exact this
  ·rw [e1];rw [show (Z79_q b x.FName).2=false from e2];exact RC.pure _ _
theorem rdiff_is {a b:TDoc}(ha:∀t∈a.FDefs.l,TOb t) (hb:∀t∈b.FDefs.l,TOb t) (hl:(diffX a.FDefs.l b.FDefs.l).length<=maxD):∃nl,Z107_q a b=some ⟨nl,diffX a.FDefs.l b.FDefs.l⟩:=by
 have h:RC (Z107_q a b) [] (diffX a.FDefs.l b.FDefs.l):=by
  unfold Z107_q diffX;refine RC.bind (rdiff56 b a.FDefs.l true []) fun nl=>?_;simp only [Ab.on];refine RC.bind (rdiff30 hb a.FDefs.l nl _ ha) fun nl=>?_;exact(rdiff11 a b.FDefs.l nl _).id
 obtain⟨nl,e⟩:=h (by simpa using hl);exact⟨nl,e⟩
theorem rsame_refl (B:Sl Z2):∀(l:List Z2) (i:Nat),B.l.drop i=l->Z108_q11 B l i=some (Sum.inl ())
 | [],i,_=>rfl
 | x::r,i,h=>by
  obtain⟨h1,h2⟩:=drop_hd h;rw [Z108_q11];simp only [Ab.on];rw [h1,Option.bind_some];simp only [decide_true,beq_self_eq_true,Bool.true_and,Bool.not_true,cond_false];exact rsame_refl B r (i+1) h2
end Go.Proofs

namespace Go.Proofs
open Go Go.Ab
theorem example49d:Z31=some true:=by kernel_rfl
theorem DocOk.ob {d:TDoc}(h:DocOk d):∀t∈d.FDefs.l,TOb t:=fun t ht=>by
 have h1:=h.t t ht;obtain⟨h2,h3⟩:=def_full (h.r t ht);exact⟨fun x hx=>⟨(h1.f x hx).r,fun y hy=>⟨(h1.f x hx).a y hy,(h2 x hx y hy).bl⟩⟩,fun y hy=>⟨h1.i y hy,(h3 y hy).bl⟩⟩
theorem diffs_eq {a b:TDoc}(ha:a.wf) (hb:b.wf) (sa:a.sz<=1048576) (sb:b.sz<=1048576):Z30_q a b=some true:=by
 obtain⟨x4,e4,w4⟩:=expected_is ha sa;obtain⟨x5,e5,w5⟩:=expected_is hb sb;unfold Z30_q;rw [e4,Option.bind_some,e5];have hg:∀{k:Bool->Option Bool},guardO (!(!x4)) (some x5) false k=k (x4&&x5):=by
  intro k; cases x4<;>rfl
 rw [hg,example49d];cases x4
 ·rfl
 ·cases x5
  ·rfl
  ·have o1:=w4 rfl;have o2:=w5 rfl;have l1:=diffX_len o1.n o2.n o1.e o2.e;have h1:=o1.w;have h2:=o2.w;obtain⟨n1,d1⟩:=diff_is o1.t o2.t (by unfold maxD; omega);obtain⟨n2,d2⟩:=rdiff_is o1.ob o2.ob (by unfold maxD; omega);have hs:Z108_q (⟨n1,diffX a.FDefs.l b.FDefs.l⟩:Sl Z2) ⟨n2,diffX a.FDefs.l b.FDefs.l⟩=some true:=by
    unfold Z108_q;have hr:Z108_q11 (⟨n2,diffX a.FDefs.l b.FDefs.l⟩:Sl Z2) (diffX a.FDefs.l b.FDefs.l) 0=some (Sum.inl ()):=rsame_refl _ _ 0 rfl;rw [decide_eq_true rfl,Bool.not_true,cond_false,hr]; rfl
   simp only [Bool.and_true,Bool.not_true,Bool.or_false,cond_false];rw [d1,Option.bind_some,d2,Option.bind_some,hs,Option.bind_some];rfl
end Go.Proofs

namespace Go.Proofs.YtbcphmbgonamlaaGreatDoor
open Go Go.Ab Go.RowKit Go.ChangeShapes Go.WideShapes Go.ChangeAt
variable {lou:Lou} [IsLoud lou]
theorem bulkAll {H:Type}(l:List (DataW H)):Rows.uptoBulkAll l=(l.map Rows.uptoBulk).sum:=by
 induction l with
 | nil=>rfl
 | cons x r ih=>simp only [Rows.uptoBulkAll,List.map_cons,List.sum_cons,ih]
theorem bulkB {H:Type}:Bulk (H:=H) Rows.uptoBulk:=by
 refine⟨fun d=>?_,fun b=>by simp [Rows.uptoBulk],fun e s=>by simp only [Rows.uptoBulk,bulkAll]; omega,fun l=>by simp only [Rows.uptoBulk,bulkAll]; omega⟩;cases d with
 | lit l=>cases l<;>simp [Rows.uptoBulk]
 | nil=>simp [Rows.uptoBulk]
 | ptr d=>simp [Rows.uptoBulk]
 | slice elems spare=>simp [Rows.uptoBulk]
 | agg parts=>simp [Rows.uptoBulk]
 | iface t d=>simp [Rows.uptoBulk]
 | map entries=>simp [Rows.uptoBulk]
 | held h=>simp [Rows.uptoBulk]
theorem own:ownKnob Tryz.prog.godebug=none:=by kernel_rfl
theorem laid:laidOutB Tryz.prog=true:=by kernel_rfl
theorem bound {H:Type}{l:List (DataW H)}(hk:Rows.uptoSmall H l=true):Rows.uptoBulkAll l<=1048576:=of_decide_eq_true hk
theorem table {W:World}(h:laidMet Tryz.prog Rows.changesDiffsUptoRow.laid W):∃u fr,W.heap[1]?=some (.cells (Lib.pow10Tab.map fun z=>Value.int .u64 z).toArray u fr) :=
 tab_of (P:=Tryz.prog) (name := "internal/strconv.uint64pow10") (g:=1) (t:=377) (e:=323) (n:=20) (by kernel_rfl) (by kernel_rfl) (by kernel_rfl) (by kernel_rfl) (by kernel_rfl) (by kernel_rfl) h
  (by rw [show (Lib.tabData .u64 Lib.pow10Tab:DataW Unit)=Rows.laid_internal_strconv_uint64pow10 from(by kernel_rfl)]; exact .tail _ (.tail _ (.head _)))
theorem isTab (u:TypeId) (fr:Nat×Nat):IsTab Tryz.prog (.fix 1 (.cells (Lib.pow10Tab.map fun z=>Value.int .u64 z).toArray u fr)):=.of (by kernel_rfl)
theorem diffs_call (a b:TDoc) (ha:a.sz<=1048576) (hb:b.sz<=1048576) (wa:a.wf) (wb:b.wf) (u:TypeId) (fr:Nat×Nat):ACalls Tryz.prog 4 [.agg a.c,.agg b.c] (hTab 1 (.cells (Lib.pow10Tab.map fun z=>Value.int .u64 z).toArray u fr)) fun r h'=>r=.a (.d (.bool true))/\h'=hTab 1 (.cells (Lib.pow10Tab.map fun z=>Value.int .u64 z).toArray u fr) :=
 Z30_walk (by rw [Z30_eq]; exact diffs_eq wa wb ha hb) _ (gT:=0) rfl (isTab u fr)
end Go.Proofs.YtbcphmbgonamlaaGreatDoor

