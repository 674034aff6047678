import Derived.Test.YtmmmdpmnafkblaaGreatDoorV7
import Derived.Test.YtmmmdpmnafkblaaGreatDoorRows
set_option maxRecDepth 100000
set_option maxHeartbeats 2000000
set_option linter.unusedVariables false
set_option linter.unusedSimpArgs false
namespace Go.Proofs
open Go Go.Ab
theorem appG {s r:Sl Z3}{T:Nat}(hT:T<=1099511627776) (h:s.l.length+r.l.length<=T):∃v,appC 24 s r=some v/\v.l.length=s.l.length+r.l.length:=⟨_,appC_ok (by decide) (Nat.le_trans h hT),by simp⟩
theorem Tl.appG {s:Sl Z3}{o:Option (Sl Z3)}{b c T:Nat}{k:Sl Z3->Option (Sl Z3)}(hT:T<=1099511627776) (h:Tl o b) (hb:s.l.length+b<=T) (hk:∀r:Sl Z3,r.l.length<=s.l.length+b->Tl (k r) c):Tl (o.bind fun x=>(appC 24 s x).bind k) c:=by
 obtain⟨r,h1,h2⟩:=h;obtain⟨v,h3,h4⟩:=Go.Proofs.appG (s:=s) (r:=r) hT (by omega);rw [h1,oB,h3,oB];exact hk v (by omega)
theorem fieldof_in (a:TDef) (n:Bs):(Z83_q a n).1∈a.FFields.l\/((Z83_q a n).1.FArgs.l=[]/\(Z83_q a n).1.FType.FWraps.l=[]):=by
 unfold Z83_q;simp only [Ab.on];have:∀l:List Z4,(match Z83_q6 n l with|Sum.inl _=>True|Sum.inr e=>e.1∈l):=by
  intro l;induction l with
  | nil=>exact trivial
  | cons x r ih =>
   rw [Z83_q6];simp only [Ab.on];cases hq:x.FName==n
   ·simp only [cond_false]
    revert ih
    cases Z83_q6 n r with
    | inl u=>intro _; exact trivial
    | inr e=>intro ih; exact .tail _ ih
   ·exact .head _
 have h:=this a.FFields.l
 revert h
 cases Z83_q6 n a.FFields.l with
 | inl u=>intro _; exact .inr ⟨rfl,rfl⟩
 | inr e=>intro h; exact .inl h
theorem field_args {f:Z4}(h:f.sz<=1048576):(∀x∈f.FArgs.l,x.FName.length<=1048576)/\f.FName.length<=1048576/\f.FType.FWraps.l.length<=1048576:=by
 have h1:=f.sz_def;have h2:=Bs.len_le f.FName;have h3:=f.FType.sz_def;have h4:=Sl.len_le (f:=fun _:Int=>1) f.FType.FWraps (fun _=>Nat.le_refl _);refine⟨fun x hx=>?_,by omega,by omega⟩;have h5:=Sl.mem_le (f:=Z5.sz) hx;have h6:=x.sz_def;have h7:=Bs.len_le x.FName;omega
theorem f43_tl (p:Bs) (hp:p.length<=10000000) (x:Z4×Bool):∀(l:List Z5) (s:Sl Z3),(∀y∈l,y.FName.length<=1048576)->s.l.length+l.length<=1000000->Tl (Z105_q43 p x l s) (s.l.length+l.length)
 | [],s,_,_=>⟨s,rfl,by simp⟩
 | y::l,s,hy,hs=>by
  have hn:=hy y (.head _);simp only [List.length_cons] at hs ⊢;rw [Z105_q43];simp only [Ab.on];have ih:∀v:Sl Z3,v.l.length<=s.l.length+1->Tl (Z105_q43 p x l v) (s.l.length+(l.length+1)):=fun v hv=>(f43_tl p hp x l v (fun z hz=>hy z (.tail _ hz)) (by omega)).mono (by omega);have more:Tl (Option.bind ((catC p ([40]:Bs)).bind fun x59=>(catC x59 y.FName).bind fun x61=>(catC x61 ([41]:Bs)).bind fun x62=>(appC 24 s (⟨false,[(Z3.mk (22:Int) x62)]⟩:Sl Z3)).bind fun x63=>some x63) fun v=>Z105_q43 p x l v) (s.l.length+(l.length+1)):=by
   rw [catC_ok (by simp; omega),oB,catC_ok (by simp; omega),oB,catC_ok (by simp; omega),oB];exact(Tl.add1 (Nat.le_refl _) (by omega)).bind fun v hv=>ih v hv
  cases (Z85_q x.1.FArgs y.FName).2
  ·simp only [guardO,Bool.not_false,Bool.not_true,Bool.true_or,cond_true];exact more
  ·obtain⟨b,hb⟩:=same11_ok (Z85_q x.1.FArgs y.FName).1.FType y.FType;simp only [guardO,Bool.not_true,Bool.not_false,if_true,cond_true,Bool.false_or,hb,oB];cases b
   ·exact more
   ·exact ih s (by omega)
theorem f20_tl (a:Z4) (p:Bs) (hp:p.length<=10000000):∀(l:List Z5) (s:Sl Z3),(∀y∈l,y.FName.length<=1048576)->s.l.length+l.length<=1000000->Tl (Z105_q20 a p l s) (s.l.length+l.length)
 | [],s,_,_=>⟨s,rfl,by simp⟩
 | y::l,s,hy,hs=>by
  have hn:=hy y (.head _);simp only [List.length_cons] at hs ⊢;rw [Z105_q20];simp only [Ab.on];have ih:∀v:Sl Z3,v.l.length<=s.l.length+1->Tl (Z105_q20 a p l v) (s.l.length+(l.length+1)):=fun v hv=>(f20_tl a p hp l v (fun z hz=>hy z (.tail _ hz)) (by omega)).mono (by omega);have both:∀w:Bool,Tl (Option.bind (bif w then((catC p ([40]:Bs)).bind fun x59=>(catC x59 y.FName).bind fun x61=>(catC x61 ([41]:Bs)).bind fun x62=>(appC 24 s (⟨false,[(Z3.mk (22:Int) x62)]⟩:Sl Z3)).bind fun x63=>some x63) else some s) fun v=>Z105_q20 a p l v) (s.l.length+(l.length+1)):=by
   intro w;cases w
   ·exact ih s (by omega)
   ·rw [cond_true,catC_ok (by simp; omega),oB,catC_ok (by simp; omega),oB,catC_ok (by simp; omega),oB];exact(Tl.add1 (Nat.le_refl _) (by omega)).bind fun v hv=>ih v hv
  exact both _
theorem field_tl {d:TDoc}(hd:d.FDefs.l.length<=1048576){a:TDef}(ha:a.sz<=1048576) (hs:Sm a){f:Z4}(hf:f.sz<=1048576) (hfa:f.FArgs.l.length<=1000):Tl (Z105_q d a f) 2001:=by
 obtain⟨g1,g2,g3⟩:=field_args hf;have h1:=a.sz_def;have h2:=Bs.len_le a.FName;have hx:(∀y∈(Z83_q a f.FName).1.FArgs.l,y.FName.length<=1048576)/\(Z83_q a f.FName).1.FArgs.l.length<=1000/\(Z83_q a f.FName).1.FType.FWraps.l.length<=1048576:=by
  rcases fieldof_in a f.FName with h|⟨h,h'⟩
  ·have h5:=Sl.mem_le (f:=Z4.sz) h;obtain⟨k1,k2,k3⟩:=field_args (f:=(Z83_q a f.FName).1) (by omega);exact⟨k1,hs.2.2.2.2 _ h,k3⟩
  ·rw [h,h']; exact⟨fun _ h=>(by cases h),by simp,by simp⟩
 unfold Z105_q;rw [catC_ok (by simp; omega),oB,catC_ok (by simp; omega),oB];simp only [Ab.on];cases (Z83_q a f.FName).2
 ·exact⟨_,rfl,by simp⟩
 ·obtain⟨v,hv⟩:=sub_ok hd F0 (Z83_q a f.FName).1.FType f.FType (by rw [F0_eq]; omega) hx.2.2 g3;rw [Bool.not_true,cond_false,show Z104_q d (Z83_q a f.FName).1.FType f.FType=some v from hv,oB];have first:∀w:Bool,Tl (bif w then((appC 24 (Sl.nil:Sl Z3) (⟨false,[(Z3.mk (10:Int) (a.FName++[46]++f.FName))]⟩:Sl Z3)).bind fun x67=>some x67) else(some (Sl.nil:Sl Z3))) 1:=by
   intro w;cases w
   ·exact⟨Sl.nil,rfl,by simp [Sl.nil]⟩
   ·exact Tl.add1 (s:=Sl.nil) (b:=0) (Nat.le_refl _) (by omega)
  refine(first (!v)).bind fun r hr=>?_;refine Tl.bind (a:=1001) ((f43_tl _ (by simp; omega) _ f.FArgs.l r g1 (by omega)).mono (by omega)) fun r2 hr2=>?_;refine Tl.bind (a:=2001) ((f20_tl f _ (by simp; omega) _ r2 hx.1 (by have:=hx.2.1; omega)).mono (by have:=hx.2.1; omega)) fun r3 hr3=>?_;exact⟨r3,rfl,hr3⟩
theorem o30_tl {d:TDoc}(hd:d.FDefs.l.length<=1048576){a:TDef}(ha:a.sz<=1048576) (hs:Sm a){T:Nat}(hT:T<=1099511627776):∀(l:List Z4) (s:Sl Z3),(∀f∈l,f.sz<=1048576/\f.FArgs.l.length<=1000)->s.l.length+2001*l.length<=T->Tl (Z110_q30 d a l s) (s.l.length+2001*l.length)
 | [],s,_,_=>⟨s,rfl,by simp⟩
 | f::l,s,hf,h=>by
  simp only [List.length_cons] at h ⊢;obtain⟨f1,f2⟩:=hf f (.head _);rw [Z110_q30];simp only [Ab.on];refine Tl.appG hT (field_tl hd ha hs f1 f2) (Nat.le_trans (Nat.add_le_add_left (Nat.le_mul_of_pos_right 2001 (Nat.succ_pos l.length)) s.l.length) h) fun r hr=>?_;exact(o30_tl hd ha hs hT l r (fun z hz=>hf z (.tail _ hz)) (by omega)).mono (by omega)
def AllSm (d:TDoc):Prop:=∀x∈d.FDefs.l,x.sz<=1048576/\Sm x
theorem found_sm {d:TDoc}(h:AllSm d) (n:Bs):(∀f∈(Z84_q d n).1.FFields.l,f.sz<=1048576/\f.FArgs.l.length<=1000)/\(Z84_q d n).1.FFields.l.length<=1000:=by
 have key:(Z84_q d n).1∈d.FDefs.l\/(Z84_q d n).1.FFields.l=[]:=by
  unfold Z84_q;simp only [Ab.on];have:∀l:List TDef,(match Z84_q6 n l with|Sum.inl _=>True|Sum.inr e=>e.1∈l):=by
   intro l;induction l with
   | nil=>exact trivial
   | cons a r ih =>
    rw [Z84_q6];simp only [Ab.on];cases hq:a.FName==n
    ·simp only [cond_false]
     revert ih
     cases Z84_q6 n r with
     | inl u=>intro _; exact trivial
     | inr e=>intro ih; exact .tail _ ih
    ·exact .head _
  have h:=this d.FDefs.l
  revert h
  cases Z84_q6 n d.FDefs.l with
  | inl u=>intro _; exact .inr rfl
  | inr e=>intro h; exact .inl h
 rcases key with hk|hk
 ·obtain⟨h1,h2⟩:=h _ hk;refine⟨fun f hf=>⟨?_,h2.2.2.2.2 f hf⟩,h2.1⟩;have h3:=Sl.mem_le (f:=Z4.sz) hf;have h4:=(Z84_q d n).1.sz_def;omega
 ·rw [hk]; exact⟨fun _ h=>(by cases h),by simp⟩
theorem obj_tl {d:TDoc}(hd:d.FDefs.l.length<=1048576) (hA:AllSm d){a:TDef}(ha:a.sz<=1048576) (hs:Sm a){T:Nat}(hT:T<=1099511627776):∀(l:List Bs) (i:Nat) (s:Sl Z3),s.l.length+2001000*l.length<=T->Tl (Z110_q7 d a l i s) (s.l.length+2001000*l.length)
 | [],i,s,_=>⟨s,rfl,by simp⟩
 | n::l,i,s,h=>by
  simp only [List.length_cons] at h ⊢;rw [Z110_q7];simp only [Ab.on];have ih:∀v:Sl Z3,v.l.length<=s.l.length+2001000->Tl (Z110_q7 d a l (i+1) v) (s.l.length+2001000*(l.length+1)):=fun v hv=>(obj_tl hd hA ha hs hT l (i+1) v (by omega)).mono (by omega);obtain⟨k1,k2⟩:=found_sm hA n;have both:∀(w:Bool) (e:Int),Tl (Option.bind (bif w then((appC 24 s (⟨false,[(Z3.mk e a.FName)]⟩:Sl Z3)).bind fun x25=>some x25) else(Option.bind (Z110_q30 d a (Z84_q d n).1.FFields.l s) fun s5_31=>some s5_31)) fun v=>Z110_q7 d a l (i+1) v) (s.l.length+2001000*(l.length+1)):=by
   intro w e;cases w
   ·obtain⟨r,r1,r2⟩:=o30_tl hd ha hs hT _ s k1 (by omega);rw [cond_false,r1];exact ih r (by omega)
   ·obtain⟨v,v1,v2⟩:=appG (s:=s) (r:=⟨false,[Z3.mk e a.FName]⟩) hT (by simp; omega);rw [cond_true,v1];exact ih v (by rw [v2]; simp)
  exact both _ _
theorem uni_tl {d:TDoc}{a:TDef}(ha:a.FName.length<=1048576){T:Nat}(hT:T<=1099511627776):∀(l:List Z6) (i:Nat) (s:Sl Z3),(∀m∈l,m.FName.length<=1048576)->s.l.length+l.length<=T->Tl (Z111_q7 d a l i s) (s.l.length+l.length)
 | [],i,s,_,_=>⟨s,rfl,by simp⟩
 | m::l,i,s,hm,h=>by
  have hn:=hm m (.head _);simp only [List.length_cons] at h ⊢;rw [Z111_q7];simp only [Ab.on];have ih:∀v:Sl Z3,v.l.length<=s.l.length+1->Tl (Z111_q7 d a l (i+1) v) (s.l.length+(l.length+1)):=fun v hv=>(uni_tl ha hT l (i+1) v (fun z hz=>hm z (.tail _ hz)) (by omega)).mono (by omega);have both:∀(w:Bool) (e:Int),Tl (Option.bind (bif w then((catC a.FName ([46]:Bs)).bind fun x24=>(catC x24 m.FName).bind fun x25=>(appC 24 s (⟨false,[(Z3.mk e x25)]⟩:Sl Z3)).bind fun x26=>some x26) else(some s)) fun v=>Z111_q7 d a l (i+1) v) (s.l.length+(l.length+1)):=by
   intro w e;cases w
   ·exact ih s (by omega)
   ·rw [cond_true,catC_ok (by simp; omega),oB,catC_ok (by simp; omega),oB];obtain⟨v,v1,v2⟩:=appG (s:=s) (r:=⟨false,[Z3.mk e (a.FName++[46]++m.FName)]⟩) hT (by simp; omega);rw [v1];exact ih v (by rw [v2]; simp)
  exact both _ _
end Go.Proofs

namespace Go.Proofs
open Go Go.Ab
theorem object_tl {d:TDoc}(hd:d.FDefs.l.length<=1048576) (hA:AllSm d){a:TDef}(ha:a.sz<=1048576) (hs:Sm a) (h6:a.FImplements.l.length<=600):Tl (Z110_q d a) 1200600000:=by
 unfold Z110_q;have h1:2001000*a.FImplements.l.length<=2001000*600:=Nat.mul_le_mul_left _ h6;obtain⟨r,e1,e2⟩:=obj_tl hd hA ha hs (T:=1099511627776) (Nat.le_refl _) a.FImplements.l 0 Sl.nil (by
  show 0+2001000*a.FImplements.l.length<=_;rw [Nat.zero_add];exact Nat.le_trans h1 (by decide))
 rw [e1];refine⟨r,rfl, ?_⟩;rw [show (Sl.nil:Sl Z3).l.length=0 from rfl,Nat.zero_add] at e2;exact Nat.le_trans e2 h1
theorem union_tl {d:TDoc}{a:TDef}(ha:a.sz<=1048576) (hs:Sm a):Tl (Z111_q d a) 1200600000:=by
 unfold Z111_q;have h1:=a.sz_def;have h2:=Bs.len_le a.FName;have h3:=hs.2.1;obtain⟨r,e1,e2⟩:=uni_tl (d:=d) (a:=a) (by omega) (T:=1000) (by decide) a.FMembers.l 0 Sl.nil (fun m hm=>by
  have h5:=Sl.mem_le (f:=Z6.sz) hm;have h6:=m.sz_def;have h7:=Bs.len_le m.FName;omega) (by simp only [Sl.nil,List.length_nil]; omega)
 rw [e1];refine⟨r,rfl, ?_⟩;simp only [Sl.nil,List.length_nil] at e2;omega
theorem faces_loop {d:TDoc}{C T:Nat}(hT:T<=1099511627776):∀(l:List TDef) (s:Sl Z3),(∀a∈l,Tl (Z110_q d a) C/\Tl (Z111_q d a) C)->s.l.length+C*l.length<=T->Tl (Z101_q7 d l s) (s.l.length+C*l.length)
 | [],s,_,_=>⟨s,rfl,by simp⟩
 | a::l,s,hC,h=>by
  obtain⟨c1,c2⟩:=hC a (.head _);rw [List.length_cons,Nat.mul_succ] at h;rw [List.length_cons,Nat.mul_succ];rw [Z101_q7];simp only [Ab.on];have hs:s.l.length+C<=T:=Nat.le_trans (by generalize C*l.length=m; omega) h;have ih:∀v:Sl Z3,v.l.length<=s.l.length+C->Tl (Z101_q7 d l v) (s.l.length+(C*l.length+C)):=fun v hv=>by
   refine(faces_loop hT l v (fun z hz=>hC z (.tail _ hz)) ?_).mono ?_
   ·clear hT; revert h; generalize C*l.length=m; intro h; omega
   ·clear hT; revert h; generalize C*l.length=m; intro h; omega
  have both:∀{o:Option (Sl Z3)},Tl o C->Tl (Option.bind (o.bind fun x21=>(appC 24 s x21).bind fun x22=>some x22) fun v=>Z101_q7 d l v) (s.l.length+(C*l.length+C)):=by
   intro o ho;refine Tl.bind (a:=s.l.length+C) (Tl.appG hT ho hs fun r hr=>⟨r,rfl,hr⟩) fun v hv=>ih v hv
  cases decide (a.FKind=1)
  ·cases decide (a.FKind=3)
   ·exact ih s (by omega)
   ·exact both c2
  ·exact both c1
theorem faces_tl {d:TDoc}(hd:d.sz<=1048576) (h:d.FDefs.l.length<=600/\∀x∈d.FDefs.l,Sm x/\x.FImplements.l.length<=600):∃r,Z101_q d=some r/\r.l.length<=1000000000000:=by
 have hA:AllSm d:=fun x hx=>by
  have h1:=d.sz_def;have h5:=Sl.mem_le (f:=TDef.sz) hx;exact⟨by omega,(h.2 x hx).1⟩
 have h70:1200600000*d.FDefs.l.length<=1200600000*600:=Nat.mul_le_mul_left _ h.1;obtain⟨r,e,hl⟩:=faces_loop (d:=d) (C:=1200600000) (T:=1099511627776) (Nat.le_refl _) d.FDefs.l Sl.nil (fun a ha=>⟨object_tl (by omega) hA (hA a ha).1 (hA a ha).2 (h.2 a ha).2,union_tl (hA a ha).1 (hA a ha).2⟩) (by
  show 0+1200600000*d.FDefs.l.length<=_;rw [Nat.zero_add];exact Nat.le_trans h70 (by decide))
 unfold Z101_q;rw [e];refine⟨r,rfl, ?_⟩;rw [show (Sl.nil:Sl Z3).l.length=0 from rfl,Nat.zero_add] at hl;exact Nat.le_trans hl (Nat.le_trans h70 (by decide))
end Go.Proofs

namespace Go.Proofs
open Go Go.Ab
theorem Z55_loop (a:TRef) (ha:a.FWraps.l.length<=1048576) (l:List Int) (i:Nat) (h:i+l.length=a.FWraps.l.length):Ok (Z55_q10 a l i):=by
 induction l generalizing i with
 | nil=>exact Tot.some _
 | cons x r ih =>
  simp only [List.length_cons] at h;have hr:=ih (i+1) (by omega);rw [Z55_q10];simp only [on];refine Tot.cond (fun _=>Tot.some _) fun _=>?_;by_cases hi:0<i
  ·have h1:decide ((0:Int)<((i:Nat):Int))=true:=by simpa using hi
   obtain⟨v,hv⟩:=idxC_ok (l:=a.FWraps.l) (n:=(i:Int)-1) (by omega);simp only [h1,cond_true,Bool.true_and,subC_ok (a:=(i:Int)) (b:=1) (by omega)];cases decide (x=1)<;>simp only [guardO,hv,if_true,oB,Bool.false_eq_true,if_false,Bool.false_and,cond_false]
   ·exact hr
   ·(repeat' (first|exact Tot.some _|assumption|(with_reducible refine Tot.bind ?_ fun _ _=>?_)|(with_reducible refine Tot.guard (fun _=>?_) fun _ _ _=>?_)|(with_reducible refine Tot.cond (fun _=>?_) fun _=>?_)|(with_reducible refine Tot.on fun _ _=>?_)|split))
  ·have h1:decide ((0:Int)<((i:Nat):Int))=false:=by simpa using hi
   simp only [h1,Bool.false_and,guardO,Bool.false_eq_true,if_false,cond_false];exact hr
theorem Z55_ok (a:TRef) (ha:a.FWraps.l.length<=1048576):Ok (Z55_q a):=by
 unfold Z55_q
 (repeat' (first|exact Tot.some _|assumption|(with_reducible refine Tot.bind ?_ fun _ _=>?_)|(with_reducible refine Tot.guard (fun _=>?_) fun _ _ _=>?_)|(with_reducible refine Tot.cond (fun _=>?_) fun _=>?_)|(with_reducible refine Tot.on fun _ _=>?_)|split))
 exact Z55_loop a ha _ _ (by simp)
theorem Z42_loop (k:Z7->Option Int) (l:List Z7) (s:Int) (hk:∀x∈l,∃r,k x=some r/\1<=r/\r<=x.sz) (hs:0<=s) (hb:s+((l.map Z7.sz).sum:Nat)<=1152921504606846976):∃r,Z42_q7 k l s=some r/\s<=r/\r<=s+((l.map Z7.sz).sum:Nat):=by
 induction l generalizing s with
 | nil=>exact⟨s,rfl,by simp,by simp⟩
 | cons x r ih =>
  obtain⟨v,h1,h2,h3⟩:=hk x List.mem_cons_self;simp only [List.map_cons,List.sum_cons] at hb ⊢;rw [Z42_q7];simp only [on,h1,oB];rw [addC_ok (by omega)];simp only [oB];obtain⟨w,h4,h5,h6⟩:=ih (s+v) (fun y hy=>hk y (List.mem_cons_of_mem _ hy)) (by omega) (by omega);exact⟨w,h4,by omega,by omega⟩
theorem Z7.item_lt {v x:Z7}(h:x∈v.FItems.l):x.sz<v.sz:=by
 have h1:=v.sz_def; have h2:=Sl.mem_le (f:=Z7.sz) h; omega
theorem Z7.items_sum (v:Z7):2+(v.FItems.l.map Z7.sz).sum<=v.sz:=by
 have h1:=v.sz_def; have h2:Sl.sz Z7.sz v.FItems=1+(v.FItems.l.map Z7.sz).sum:=rfl; omega
theorem Z42_tot (n:Nat):∀v:Z7,v.sz<n->v.sz<=1073741824->∃r,Z42_qn n v=some r/\1<=r/\r<=v.sz:=by
 induction n with
 | zero=>intro v h; omega
 | succ n ih =>
  intro v h hb;have h0:=v.items_sum;obtain⟨w,h4,h5,h6⟩:=Z42_loop (Z42_qn n) v.FItems.l 1 (fun x hx=>by have:=Z7.item_lt hx; exact ih x (by omega) (by omega)) (by omega) (by omega);rw [Z42_qn,h4];exact⟨w,rfl,by omega,by omega⟩
theorem Z42_ok (v:Z7) (h:v.sz<=1048576):∃r,Z42_q v=some r/\1<=r/\r<=v.sz:=Z42_tot F0 v (by rw [F0_eq]; omega) (by omega)
theorem Z39_loop (k:Z7->Option Int) (l:List Z7) (s b:Int) (hk:∀x∈l,∃r,k x=some r/\1<=r/\r<=b) (hs:0<=s/\s<=b):∃r,Z39_q8 k l s=some r/\0<=r/\r<=b:=by
 induction l generalizing s with
 | nil=>exact⟨s,rfl,by omega,by omega⟩
 | cons x r ih =>
  obtain⟨v,h1,h2,h3⟩:=hk x List.mem_cons_self;rw [Z39_q8];simp only [on,h1,oB];exact ih _ (fun y hy=>hk y (List.mem_cons_of_mem _ hy)) (by split<;>omega)
theorem Z39_tot (n:Nat):∀v:Z7,v.sz<n->v.sz<=1073741824->∃r,Z39_qn n v=some r/\1<=r/\r<=v.sz:=by
 induction n with
 | zero=>intro v h; omega
 | succ n ih =>
  intro v h hb;have h0:=v.items_sum;obtain⟨w,h4,h5,h6⟩:=Z39_loop (Z39_qn n) v.FItems.l 0 (v.sz-1:Nat) (fun x hx=>by have:=Z7.item_lt hx; obtain⟨r,h7,h8,h9⟩:=ih x (by omega) (by omega); exact⟨r,h7,h8,by omega⟩) (by omega);rw [Z39_qn,h4];simp only [on,oB];rw [addC_ok (by omega)];exact⟨w+1,rfl,by omega,by omega⟩
theorem Z39_ok (v:Z7) (h:v.sz<=1048576):Ok (Z39_q v):=by
 obtain⟨r,hr,_⟩:=Z39_tot F0 v (by rw [F0_eq]; omega) (by omega); exact⟨r,hr⟩
theorem Z48_in (a:Sl Bs) (x:Bs) (m i:Nat) (h:i+m<=a.l.length):Ok (Z48_q13 a x m i):=by
 induction m generalizing i with
 | zero=>exact Tot.some _
 | succ m ih =>
  rw [Z48_q13]
  (repeat' (first|exact Tot.some _|assumption|(with_reducible refine Tot.bind ?_ fun _ _=>?_)|(with_reducible refine Tot.guard (fun _=>?_) fun _ _ _=>?_)|(with_reducible refine Tot.cond (fun _=>?_) fun _=>?_)|(with_reducible refine Tot.on fun _ _=>?_)|split))
  ·exact get_ok (by omega)
  ·exact ih _ (by omega)
theorem Z48_out (a:Sl Bs) (l:List Bs) (i:Nat) (h:i+l.length=a.l.length):Ok (Z48_q5 a l i):=by
 induction l generalizing i with
 | nil=>exact Tot.some _
 | cons x r ih =>
  simp only [List.length_cons] at h;rw [Z48_q5]
  (repeat' (first|exact Tot.some _|assumption|(with_reducible refine Tot.bind ?_ fun _ _=>?_)|(with_reducible refine Tot.guard (fun _=>?_) fun _ _ _=>?_)|(with_reducible refine Tot.cond (fun _=>?_) fun _=>?_)|(with_reducible refine Tot.on fun _ _=>?_)|split))
  ·exact Z48_in a x _ _ (by omega)
  ·exact ih _ (by omega)
theorem Z48_ok (a:Sl Bs):Ok (Z48_q a):=by
 unfold Z48_q
 (repeat' (first|exact Tot.some _|assumption|(with_reducible refine Tot.bind ?_ fun _ _=>?_)|(with_reducible refine Tot.guard (fun _=>?_) fun _ _ _=>?_)|(with_reducible refine Tot.cond (fun _=>?_) fun _=>?_)|(with_reducible refine Tot.on fun _ _=>?_)|split))
 exact Z48_out a _ _ (by simp)
theorem Z46_ok (v:Z7) (b:Bool):Ok (Z46_q v b):=by
 unfold Z46_q
 (repeat' (first|exact Tot.some _|assumption|(with_reducible refine Tot.bind ?_ fun _ _=>?_)|(with_reducible refine Tot.guard (fun _=>?_) fun _ _ _=>?_)|(with_reducible refine Tot.cond (fun _=>?_) fun _=>?_)|(with_reducible refine Tot.on fun _ _=>?_)|split))
 exact Z48_ok _
theorem Z49_loop (b:Bool) (k:Z7->Bool->Option Bool) (l:List Z7) (hk:∀x∈l,Ok (k x b)):Ok (Z49_q11 b k l):=by
 induction l with
 | nil=>exact Tot.some _
 | cons x r ih =>
  rw [Z49_q11]
  (repeat' (first|exact Tot.some _|assumption|(with_reducible refine Tot.bind ?_ fun _ _=>?_)|(with_reducible refine Tot.guard (fun _=>?_) fun _ _ _=>?_)|(with_reducible refine Tot.cond (fun _=>?_) fun _=>?_)|(with_reducible refine Tot.on fun _ _=>?_)|split))
  ·rename_i h; rw [h]; exact hk x List.mem_cons_self
  ·exact ih fun y hy=>hk y (List.mem_cons_of_mem _ hy)
theorem Z49_tot (n:Nat):∀(v:Z7) (b:Bool),v.sz<n->Ok (Z49_qn n v b):=by
 induction n with
 | zero=>intro v b h; omega
 | succ n ih =>
  intro v b h;rw [Z49_qn]
  (repeat' (first|exact Tot.some _|assumption|(with_reducible refine Tot.bind ?_ fun _ _=>?_)|(with_reducible refine Tot.guard (fun _=>?_) fun _ _ _=>?_)|(with_reducible refine Tot.cond (fun _=>?_) fun _=>?_)|(with_reducible refine Tot.on fun _ _=>?_)|split))
  ·exact Z46_ok _ _
  ·exact Z49_loop b _ _ fun x hx=>ih x b (by have:=Z7.item_lt hx; omega)
theorem Z40_ok (v:Z7) (h:v.sz<=1048576):Ok (Z40_q v):=by
 unfold Z40_q;obtain⟨r,hr,_⟩:=Z42_ok v h
 (repeat' (first|exact Tot.some _|assumption|(with_reducible refine Tot.bind ?_ fun _ _=>?_)|(with_reducible refine Tot.guard (fun _=>?_) fun _ _ _=>?_)|(with_reducible refine Tot.cond (fun _=>?_) fun _=>?_)|(with_reducible refine Tot.on fun _ _=>?_)|split))
 ·exact⟨r,hr⟩
 ·exact Z39_ok v h
 ·exact Z49_tot F0 v true (by rw [F0_eq]; omega)
theorem Z61_loop (k:Z7->Option Bool) (l:List Z7) (hk:∀x∈l,Ok (k x)):Ok (Z61_q5 k l):=by
 induction l with
 | nil=>exact Tot.some _
 | cons x r ih =>
  rw [Z61_q5]
  (repeat' (first|exact Tot.some _|assumption|(with_reducible refine Tot.bind ?_ fun _ _=>?_)|(with_reducible refine Tot.guard (fun _=>?_) fun _ _ _=>?_)|(with_reducible refine Tot.cond (fun _=>?_) fun _=>?_)|(with_reducible refine Tot.on fun _ _=>?_)|split))
  ·rename_i h; rw [h]; exact hk x List.mem_cons_self
  ·exact ih fun y hy=>hk y (List.mem_cons_of_mem _ hy)
theorem Z61_tot (n:Nat):∀(v:Z7),v.sz<n->Ok (Z61_qn n v):=by
 induction n with
 | zero=>intro v h; omega
 | succ n ih =>
  intro v h;rw [Z61_qn]
  (repeat' (first|exact Tot.some _|assumption|(with_reducible refine Tot.bind ?_ fun _ _=>?_)|(with_reducible refine Tot.guard (fun _=>?_) fun _ _ _=>?_)|(with_reducible refine Tot.cond (fun _=>?_) fun _=>?_)|(with_reducible refine Tot.on fun _ _=>?_)|split))
  exact Z61_loop _ _ fun x hx=>ih x (by have:=Z7.item_lt hx; omega)
theorem Z61_ok (v:Z7) (h:v.sz<=1048576):Ok (Z61_q v):=Z61_tot F0 v (by rw [F0_eq]; omega)
theorem TArg.value_le (a:TArg):a.FValue.sz<=a.sz:=by have:=a.sz_def; omega
theorem TDir.arg_le {x:TDir}{a:TArg}(h:a∈x.FArgs.l):a.sz<=x.sz:=by have:=x.sz_def; have:=Sl.mem_le (f:=TArg.sz) h; omega
theorem Z63_in (h10:TDir) (l:List TArg) (h:∀a∈l,a.sz<=1048576):Ok (Z63_q25 h10 l):=by
 induction l with
 | nil=>exact Tot.some _
 | cons x r ih =>
  have h1:=h x List.mem_cons_self; have h2:=x.value_le;rw [Z63_q25]
  (repeat' (first|exact Tot.some _|assumption|(with_reducible refine Tot.bind ?_ fun _ _=>?_)|(with_reducible refine Tot.guard (fun _=>?_) fun _ _ _=>?_)|(with_reducible refine Tot.cond (fun _=>?_) fun _=>?_)|(with_reducible refine Tot.on fun _ _=>?_)|split))
  all_goals first|exact ih fun y hy=>h y (List.mem_cons_of_mem _ hy)|(subst_vars; first|exact Z40_ok _ (by omega)|exact Z61_ok _ (by omega))
theorem Z63_loop (l:List TDir) (h:∀a∈l,a.sz<=1048576):Ok (Z63_q10 l):=by
 induction l with
 | nil=>exact Tot.some _
 | cons x r ih =>
  have h1:=h x List.mem_cons_self;rw [Z63_q10]
  (repeat' (first|exact Tot.some _|assumption|(with_reducible refine Tot.bind ?_ fun _ _=>?_)|(with_reducible refine Tot.guard (fun _=>?_) fun _ _ _=>?_)|(with_reducible refine Tot.cond (fun _=>?_) fun _=>?_)|(with_reducible refine Tot.on fun _ _=>?_)|split))
  ·exact Z63_in x _ fun a ha=>by have:=TDir.arg_le ha; omega
  ·exact ih fun y hy=>h y (List.mem_cons_of_mem _ hy)
theorem Z63_ok (s:Sl TDir) (h:Sl.sz TDir.sz s<=1048576):Ok (Z63_q s):=by
 unfold Z63_q
 (repeat' (first|exact Tot.some _|assumption|(with_reducible refine Tot.bind ?_ fun _ _=>?_)|(with_reducible refine Tot.guard (fun _=>?_) fun _ _ _=>?_)|(with_reducible refine Tot.cond (fun _=>?_) fun _=>?_)|(with_reducible refine Tot.on fun _ _=>?_)|split))
 exact Z63_loop _ fun a ha=>by have:=Sl.mem_le (f:=TDir.sz) ha; omega
theorem TRef.wraps_le (r:TRef):r.FWraps.l.length<=r.sz:=by have:=r.sz_def; have:=Sl.len_le (f:=fun _:Int=>1) r.FWraps (fun _=>Nat.le_refl _); omega
theorem Z65_loop (l:List Z5) (h:∀a∈l,a.sz<=1048576):Ok (Z65_q10 l):=by
 induction l with
 | nil=>exact Tot.some _
 | cons x r ih =>
  have h1:=h x List.mem_cons_self; have h2:=x.sz_def; have h3:=x.FType.wraps_le;rw [Z65_q10]
  (repeat' (first|exact Tot.some _|assumption|(with_reducible refine Tot.bind ?_ fun _ _=>?_)|(with_reducible refine Tot.guard (fun _=>?_) fun _ _ _=>?_)|(with_reducible refine Tot.cond (fun _=>?_) fun _=>?_)|(with_reducible refine Tot.on fun _ _=>?_)|split))
  all_goals first|exact ih fun y hy=>h y (List.mem_cons_of_mem _ hy)|(subst_vars; first|exact Z55_ok _ (by omega)|exact Z63_ok _ (by omega)|exact Z40_ok _ (by omega)|exact Z61_ok _ (by omega))
theorem Z65_ok (s:Sl Z5) (h:Sl.sz Z5.sz s<=1048576):Ok (Z65_q s):=by
 unfold Z65_q
 (repeat' (first|exact Tot.some _|assumption|(with_reducible refine Tot.bind ?_ fun _ _=>?_)|(with_reducible refine Tot.guard (fun _=>?_) fun _ _ _=>?_)|(with_reducible refine Tot.cond (fun _=>?_) fun _=>?_)|(with_reducible refine Tot.on fun _ _=>?_)|split))
 exact Z65_loop _ fun a ha=>by have:=Sl.mem_le (f:=Z5.sz) ha; omega
theorem Z64_loop (l:List Z4) (h:∀a∈l,a.sz<=1048576):Ok (Z64_q10 l):=by
 induction l with
 | nil=>exact Tot.some _
 | cons x r ih =>
  have h1:=h x List.mem_cons_self; have h2:=x.sz_def; have h3:=x.FType.wraps_le;have hz:Z4.zero.FType.FWraps.l.length<=1048576:=by decide
  rw [Z64_q10];simp only [on];cases Z34_q x.FName<;>simp only [Bool.not_true,Bool.not_false,cond_true,cond_false,Bool.or_false,Bool.or_true,Bool.true_or,Bool.false_or]
  ·simp [guardO]; exact Tot.some _
  ·obtain⟨b1,e1⟩:=Z65_ok x.FArgs (by omega);obtain⟨b2,e2⟩:=Z55_ok x.FType (by omega);obtain⟨b3,e3⟩:=Z63_ok x.FDirs (by omega);have hr:=ih fun y hy=>h y (List.mem_cons_of_mem _ hy);cases b1<;>cases b2<;>cases b3<;>simp [guardO,e1,e2,e3]<;>first|exact Tot.some _|exact hr
theorem Z64_ok (s:Sl Z4) (h:Sl.sz Z4.sz s<=1048576):Ok (Z64_q s):=by
 unfold Z64_q
 (repeat' (first|exact Tot.some _|assumption|(with_reducible refine Tot.bind ?_ fun _ _=>?_)|(with_reducible refine Tot.guard (fun _=>?_) fun _ _ _=>?_)|(with_reducible refine Tot.cond (fun _=>?_) fun _=>?_)|(with_reducible refine Tot.on fun _ _=>?_)|split))
 exact Z64_loop _ fun a ha=>by have:=Sl.mem_le (f:=Z4.sz) ha; omega
theorem Z66_loop (b:Bool) (l:List Z6) (h:∀a∈l,a.sz<=1048576):Ok (Z66_q10 b l):=by
 induction l with
 | nil=>exact Tot.some _
 | cons x r ih =>
  have h1:=h x List.mem_cons_self; have h2:=x.sz_def;rw [Z66_q10];simp only [on];cases Z34_q x.FName<;>simp only [Bool.not_true,Bool.not_false,cond_true,cond_false,Bool.or_false,Bool.or_true,Bool.true_or,Bool.false_or]
  ·simp [guardO]; exact Tot.some _
  ·obtain⟨b3,e3⟩:=Z63_ok x.FDirs (by omega);have hr:=ih fun y hy=>h y (List.mem_cons_of_mem _ hy);simp only [guardO,e3,if_true,oB]
   (repeat' (first|exact Tot.some _|assumption|(with_reducible refine Tot.bind ?_ fun _ _=>?_)|(with_reducible refine Tot.guard (fun _=>?_) fun _ _ _=>?_)|(with_reducible refine Tot.cond (fun _=>?_) fun _=>?_)|(with_reducible refine Tot.on fun _ _=>?_)|split))
theorem Z66_ok (s:Sl Z6) (b:Bool) (h:Sl.sz Z6.sz s<=1048576):Ok (Z66_q s b):=by
 unfold Z66_q
 (repeat' (first|exact Tot.some _|assumption|(with_reducible refine Tot.bind ?_ fun _ _=>?_)|(with_reducible refine Tot.guard (fun _=>?_) fun _ _ _=>?_)|(with_reducible refine Tot.cond (fun _=>?_) fun _=>?_)|(with_reducible refine Tot.on fun _ _=>?_)|split))
 exact Z66_loop _ _ fun a ha=>by have:=Sl.mem_le (f:=Z6.sz) ha; omega
theorem Z62_ok (x:TDef) (h:x.sz<=1048576):Ok (Z62_q x):=by
 have h2:=x.sz_def;unfold Z62_q
 (repeat' (first|exact Tot.some _|assumption|(with_reducible refine Tot.bind ?_ fun _ _=>?_)|(with_reducible refine Tot.guard (fun _=>?_) fun _ _ _=>?_)|(with_reducible refine Tot.cond (fun _=>?_) fun _=>?_)|(with_reducible refine Tot.on fun _ _=>?_)|split))
 all_goals first|exact Z63_ok _ (by omega)|exact Z64_ok _ (by omega)|exact Z66_ok _ _ (by omega)|exact Z65_ok _ (by omega)
theorem Z59_loop (l:List TDef) (h:∀a∈l,a.sz<=1048576):Ok (Z59_q10 l):=by
 induction l with
 | nil=>exact Tot.some _
 | cons x r ih =>
  rw [Z59_q10]
  (repeat' (first|exact Tot.some _|assumption|(with_reducible refine Tot.bind ?_ fun _ _=>?_)|(with_reducible refine Tot.guard (fun _=>?_) fun _ _ _=>?_)|(with_reducible refine Tot.cond (fun _=>?_) fun _=>?_)|(with_reducible refine Tot.on fun _ _=>?_)|split))
  ·subst_vars; exact Z62_ok _ (h _ List.mem_cons_self)
  ·exact ih fun y hy=>h y (List.mem_cons_of_mem _ hy)
theorem TDoc.def_le {d:TDoc}{x:TDef}(h:x∈d.FDefs.l):x.sz<=d.sz:=by have:=d.sz_def; have:=Sl.mem_le (f:=TDef.sz) h; omega
theorem Z59_ok (d:TDoc) (h:d.sz<=1048576):Ok (Z59_q d):=by
 unfold Z59_q
 (repeat' (first|exact Tot.some _|assumption|(with_reducible refine Tot.bind ?_ fun _ _=>?_)|(with_reducible refine Tot.guard (fun _=>?_) fun _ _ _=>?_)|(with_reducible refine Tot.cond (fun _=>?_) fun _=>?_)|(with_reducible refine Tot.on fun _ _=>?_)|split))
 exact Z59_loop _ fun a ha=>by have:=TDoc.def_le ha; omega
end Go.Proofs

namespace Go.Proofs
open Go Go.Ab
def Gr (o:Option Int) (s:Int) (b:Nat):Prop:=∃r,o=some r/\s<=r/\r<=s+b
theorem Gr.refl (s:Int) (b:Nat):Gr (some s) s b:=⟨s,rfl,by omega,by omega⟩
theorem Gr.bind {o:Option Int}{k:Int->Option Int}{s:Int}{a b c:Nat}(h:Gr o s a) (hc:a+b<=c) (hk:∀r,s<=r->r<=s+a->Gr (k r) r b):Gr (o.bind k) s c:=by
 obtain⟨r,e,h1,h2⟩:=h;obtain⟨r2,e2,h3,h4⟩:=hk r h1 h2;exact⟨r2,by rw [e]; exact e2,by omega,by omega⟩
theorem Gr.add {x s:Int}{b:Nat}(hx:0<=x/\x<=b) (hs:0<=s/\s+b<=1099511627776):Gr (addC s x) s b:=⟨s+x,addC_ok (by omega),by omega,by omega⟩
theorem keys_w (a1:Int):∀(l:List Bs) (s:Int),0<=s->s+(l.map Bs.sz).sum<=1073741824->Gr (Z50_q23 a1 l s) s (l.map Bs.sz).sum
 | [],s,_,_=>Gr.refl _ _
 | a::r,s,h0,h=>by
  simp only [List.map_cons,List.sum_cons] at h ⊢;rw [Z50_q23];cases decide (s<=a1) with
  | false=>exact Gr.refl _ _
  | true =>
   simp only [cond_true,Ab.on];have hb:Bs.sz a=a.length+1:=rfl;refine Gr.bind (a:=1) (b:=a.length+(r.map Bs.sz).sum) (Gr.add (by omega) (by omega)) (by omega) fun x h1 h2=>?_;refine Gr.bind (a:=a.length) (b:=(r.map Bs.sz).sum) (Gr.add (by omega) (by omega)) (by omega) fun y h3 h4=>?_;exact keys_w a1 r y (by omega) (by omega)
theorem value_w (a1:Int) (n:Nat):∀v:Z7,v.sz<n->v.sz<=1048576->Gr (Z50_qn n v a1) 0 v.sz:=by
 induction n with
 | zero=>intro v h; omega
 | succ n ih =>
  intro v hn hs;have hd:=v.sz_def;have ht:Bs.sz v.FText=v.FText.length+1:=rfl;have hk:Sl.sz Bs.sz v.FKeys=1+(v.FKeys.l.map Bs.sz).sum:=rfl;have hi:Sl.sz Z7.sz v.FItems=1+(v.FItems.l.map Z7.sz).sum:=rfl;have hl:∀(l:List Z7) (s:Int),(∀x∈l,x.sz<n/\x.sz<=1048576)->0<=s->s+(l.map Z7.sz).sum<=1073741824->Gr (Z50_q11 a1 (Z50_qn n) l s) s (l.map Z7.sz).sum:=by
   intro l;induction l with
   | nil=>intro s _ _ _; exact Gr.refl _ _
   | cons a r ihl =>
    intro s hx h0 h;simp only [List.map_cons,List.sum_cons] at h ⊢;rw [Z50_q11];cases decide (s<=a1) with
    | false=>exact Gr.refl _ _
    | true =>
     simp only [cond_true,Ab.on];obtain⟨w,e,h1,h2⟩:=ih a (hx a (by simp)).1 (hx a (by simp)).2;rw [e,oB];refine Gr.bind (a:=a.sz) (b:=(r.map Z7.sz).sum) (Gr.add (by omega) (by omega)) (by omega) fun y h3 h4=>?_;exact ihl y (fun x hx'=>hx x (by simp [hx'])) (by omega) (by omega)
  rw [Z50_qn,addC_ok (by omega),oB];simp only [Ab.on];obtain⟨x,e1,x1,x2⟩:=keys_w a1 v.FKeys.l (1+(v.FText.length:Int)) (by omega) (by omega);rw [e1,oB];obtain⟨y,e2,y1,y2⟩:=hl v.FItems.l x (fun z hz=>by have:=Z7.item_lt hz; omega) (by omega) (by omega);rw [e2];exact⟨y,rfl,by omega,by omega⟩
theorem value_W (a1:Int) (v:Z7) (h:v.sz<=1048576):Gr (Z50_q v a1) 0 v.sz:=value_w a1 F0 v (by rw [F0_eq]; omega) h
end Go.Proofs

namespace Go.Proofs
open Go Go.Ab
theorem dlen:∀(f u:Nat),u<10 ^ f->(Lib.decDigits u).length<=f+1:=by
 intro f;induction f with
 | zero =>
  intro u hu;have:u=0:=by simpa using hu
  subst this; rw [Lib.decDigits]; simp
 | succ f ih =>
  intro u hu;rw [Lib.decDigits]
  split
  ·simp
  ·have:=ih (u / 10) (by rw [Nat.pow_succ] at hu; omega);simp; omega
theorem dlen20 {u:Nat}(h:u<=9223372036854775808):(Lib.decDigits u).length<=21:=dlen 20 u (by omega)
theorem itoaLen {n:Int}(h0 : -9223372036854775808<=n) (h1:n<=9223372036854775807):(Lib.itoa n).length<=22:=by
 unfold Lib.itoa
 split
 ·have:=dlen20 (u:=n.natAbs) (by omega); simp; omega
 ·have:=dlen20 (u:=n.toNat) (by omega); omega
theorem textDecimal_eq {n:Int}(h0 : -9223372036854775808<=n) (h1:n<=9223372036854775807):Z139_q n=some (Lib.itoa n):=by
 unfold Z139_q Z126_q Z126;rw [if_pos ⟨h0,h1,by have:=itoaLen h0 h1; unfold maxS; omega⟩]; rfl
theorem all_u8 {p:UInt8->Prop}(h:∀i:Fin 256,p (UInt8.ofNat i.val)) (c:UInt8):p c:=by
 have:=h ⟨c.toNat,c.toNat_lt⟩
 simpa using this
def hx (n:Nat):UInt8:=if n<10 then UInt8.ofNat (48+n) else UInt8.ofNat (87+n)
def esc (c:UInt8):Bs:=if c=34 then [92,34] else if c=92 then [92,92] else if c=10 then [92,110] else if c=13 then [92,114] else if c=9 then [92,116] else if 32<=c.toNat/\c.toNat<=126 then [c] else [92,117,48,48,hx (c.toNat / 16),hx (c.toNat % 16)]
def qt (s:Bs):Bs:=34::(s.flatMap esc++[34])
theorem esc_len (c:UInt8):(esc c).length<=6:=by
 unfold esc; (repeat' split);all_goals simp
theorem flat_len (s:Bs):(s.flatMap esc).length<=6*s.length:=by
 induction s with
 | nil=>simp
 | cons a r ih=>have:=esc_len a; simp only [List.flatMap_cons,List.length_append,List.length_cons]; omega
theorem qt_len (s:Bs):(qt s).length<=6*s.length+2:=by have:=flat_len s; simp only [qt,List.length_append,List.length_cons,List.length_nil]; omega
def bb (l:Bs):Strings_Builder:=⟨true,⟨false,l.map fun b=>(b.toNat:Int)⟩⟩
theorem bb_len (l:Bs):(bb l).Fbuf.l.length=l.length:=by simp [bb]
theorem wb_eq (l:Bs) (c:UInt8) (h:l.length<=1099511627000):Z128_q (bb l) ((c.toNat:Nat):Int)=some ((),bb (l++[c])):=by
 unfold Z128_q Z130_q;rw [oB,appC_ok (by decide) (by show (bb l).Fbuf.l.length+1<=_; rw [bb_len]; omega),oB];simp [bb]
theorem ws_eq (l s:Bs) (h:l.length+s.length<=1099511627000):∃k,Z129_q (bb l) s=some (k,(),bb (l++s)):=by
 unfold Z129_q Z130_q;rw [oB,appC_ok (by decide) (by show (bb l).Fbuf.l.length+_<=_; rw [bb_len,strSl_len]; omega),oB];exact⟨(s.length:Nat),by simp [bb,strSl]⟩
theorem str_eq (l:Bs) (h:l≠[]):Z127_q (bb l)=some l:=by
 unfold Z127_q bldStr;have h1:(bb l).Fbuf.l.all (fun n=>decide (0<=n/\n<256))=true:=by
  rw [List.all_eq_true];intro x hx;obtain⟨b,_,rfl⟩:=List.mem_map.1 hx;have:=b.toNat_lt;exact dT ⟨by omega,by omega⟩
 rw [if_pos ⟨h1,.inr ⟨rfl,by simp [bb,h]⟩⟩];have:bytesC (bb l).Fbuf=l:=by
  unfold bytesC bb;rw [List.map_map];conv=>rhs; rw [<- List.map_id l]
  refine List.map_congr_left fun b _=>?_;simp
 rw [this]
theorem hexHi (c:UInt8):idxC ([48,49,50,51,52,53,54,55,56,57,97,98,99,100,101,102]:Bs) (Int.fdiv ((c.toNat:Nat):Int) (2 ^ (min (Int.toNat 4) (IntKind.bits .u8))))=some (hx (c.toNat / 16)):=by
 revert c
 apply all_u8
 decide +kernel
theorem hexLo (c:UInt8):idxC ([48,49,50,51,52,53,54,55,56,57,97,98,99,100,101,102]:Bs) (IntKind.wrap .u8 ((BitVec.ofInt (IntKind.bits .u8) ((c.toNat:Nat):Int) &&& BitVec.ofInt (IntKind.bits .u8) (15:Int)).toNat:Int))=some (hx (c.toNat % 16)):=by
 revert c
 apply all_u8
 decide +kernel
theorem u8_ne {c d:UInt8}:decide (((c.toNat:Nat):Int)=((d.toNat:Nat):Int))=decide (c=d):=by
 by_cases h:c=d
 ·subst h; simp
 ·rw [dF h,dF];intro e; exact h (UInt8.toNat_inj.1 (by omega))
theorem tquote_loop:∀(s:Bs) (o:Bs),o.length+6*s.length<=1099511626000->Z141_q15 s (bb o)=some (bb (o++s.flatMap esc)):=by
 intro s;induction s with
 | nil=>intro o _; simp [Z141_q15]
 | cons a r ih =>
  intro o h;have hel:=esc_len a;simp only [List.length_cons] at h;have fin:∀x:Bs,x=esc a->Z141_q15 r (bb (o++x))=some (bb (o++(a::r).flatMap esc)):=by
   rintro _ rfl;rw [ih _ (by simp; omega)]; simp
  have e34:=u8_ne (c:=a) (d:=34); have e92:=u8_ne (c:=a) (d:=92); have e10:=u8_ne (c:=a) (d:=10); have e13:=u8_ne (c:=a) (d:=13); have e9:=u8_ne (c:=a) (d:=9);rw [Z141_q15];simp only [Ab.on];rw [show (34:Int)=(((34:UInt8).toNat:Nat):Int) from rfl,e34,show (92:Int)=(((92:UInt8).toNat:Nat):Int) from rfl,e92,show (10:Int)=(((10:UInt8).toNat:Nat):Int) from rfl,e10,show (13:Int)=(((13:UInt8).toNat:Nat):Int) from rfl,e13,show (9:Int)=(((9:UInt8).toNat:Nat):Int) from rfl,e9]
  by_cases c1:a=34
  ·rw [dT c1,cond_true,cond_true,wb_eq _ _ (by omega),oB,wb_eq _ _ (by simp; omega),oB,oB];simp only [List.append_assoc];exact fin _ (by rw [c1]; rfl)
  rw [dF c1,cond_false];by_cases c2:a=92
  ·rw [dT c2,cond_true,wb_eq _ _ (by omega),oB,wb_eq _ _ (by simp; omega),oB,oB];simp only [List.append_assoc];exact fin _ (by rw [c2]; rfl)
  rw [dF c2,cond_false];by_cases c3:a=10
  ·obtain⟨k,e⟩:=ws_eq o [92,110] (by simp; omega);rw [dT c3,cond_true,e,oB,oB];exact fin _ (by rw [c3]; rfl)
  rw [dF c3,cond_false];by_cases c4:a=13
  ·obtain⟨k,e⟩:=ws_eq o [92,114] (by simp; omega);rw [dT c4,cond_true,e,oB,oB];exact fin _ (by rw [c4]; rfl)
  rw [dF c4,cond_false];by_cases c5:a=9
  ·obtain⟨k,e⟩:=ws_eq o [92,116] (by simp; omega);rw [dT c5,cond_true,e,oB,oB];exact fin _ (by rw [c5]; rfl)
  rw [dF c5,cond_false];have he:esc a=if 32<=a.toNat/\a.toNat<=126 then [a] else [92,117,48,48,hx (a.toNat / 16),hx (a.toNat % 16)]:=by
   unfold esc; rw [if_neg c1,if_neg c2,if_neg c3,if_neg c4,if_neg c5]
  by_cases c6:32<=a.toNat/\a.toNat<=126
  ·rw [show ((decide ((32:Int)<=((a.toNat:Nat):Int)))&&(decide (((a.toNat:Nat):Int)<=(126:Int))))=true by simp; omega,cond_true,wb_eq _ _ (by omega),oB,oB];exact fin _ (by rw [he,if_pos c6])
  ·rw [show ((decide ((32:Int)<=((a.toNat:Nat):Int)))&&(decide (((a.toNat:Nat):Int)<=(126:Int))))=false by simp; omega,cond_false];obtain⟨k,e⟩:=ws_eq o [92,117,48,48] (by simp; omega);rw [e,oB,hexHi,oB,wb_eq _ _ (by simp; omega),oB,hexLo,oB,wb_eq _ _ (by simp; omega),oB,oB];simp only [List.append_assoc];exact fin _ (by rw [he,if_neg c6]; rfl)
theorem tquote_eq (s:Bs) (h:s.length<=1048576):Z141_q s=some (qt s):=by
 have hf:=flat_len s;unfold Z141_q;have h0:Z128_q Strings_Builder.zero (34:Int)=some ((),bb [34]):=by rfl
 rw [h0,oB,tquote_loop _ _ (by simp; omega),oB];simp only [Ab.on];rw [show (34:Int)=(((34:UInt8).toNat:Nat):Int) from rfl,wb_eq _ _ (by simp only [List.length_append,List.length_cons,List.length_nil]; omega),oB,str_eq _ (by simp)];simp [qt]
def sepB:Bs:=[44,32]
def pairB (a b:Bs):Bs:=a++[58,32]++b
mutual
def wv:Z7->Bs
 | .mk k i t _ items keys=>if k=1 then(if i=0 then [102,97,108,115,101] else [116,114,117,101]) else if k=2 then Lib.itoa i else if k=3 then qt t else if k=4 then t else if k=7 then 36::t else
  if k=5 then 91::(Lib.join (wvL items) sepB++[93]) else if k=6 then 123::(Lib.join (List.zipWith pairB keys.l (wvL items)) sepB++[125]) else [110,117,108,108]
def wvL:List Z7->List Bs
 | []=>[]
 | v::r=>wv v::wvL r
end
theorem wvL_eq (l:List Z7):wvL l=l.map wv:=by
 induction l with
 | nil=>rw [wvL]; rfl
 | cons a r ih=>rw [wvL,ih]; rfl
theorem wv_eq (v:Z7):wv v=if v.FKind=1 then(if v.FInt=0 then [102,97,108,115,101] else [116,114,117,101]) else if v.FKind=2 then Lib.itoa v.FInt else if v.FKind=3 then qt v.FText else if v.FKind=4 then v.FText else if v.FKind=7 then 36::v.FText else
  if v.FKind=5 then 91::(Lib.join (v.FItems.l.map wv) sepB++[93]) else if v.FKind=6 then 123::(Lib.join (List.zipWith pairB v.FKeys.l (v.FItems.l.map wv)) sepB++[125]) else [110,117,108,108]:=by
 cases v with
 | mk k i t nl items keys =>
  rw [wv];simp only [Z7.FKind,Z7.FInt,Z7.FText,Z7.FItems,Z7.FKeys,wvL_eq];rfl
theorem tail_len (r:List Bs):(Lib.joinTail sepB r).length=(r.map fun x=>x.length+2).sum:=by
 induction r with
 | nil=>rfl
 | cons a r ih =>
  have:Lib.joinTail sepB (a::r)=sepB++a++Lib.joinTail sepB r:=by simp [Lib.joinTail]
  have h2:sepB.length=2:=rfl;rw [this,List.length_append,List.length_append,ih,List.map_cons,List.sum_cons]; omega
theorem join_len (l:List Bs):(Lib.join l sepB).length<=(l.map fun x=>x.length+2).sum:=by
 cases l with
 | nil=>rw [Lib.join_nil]; simp
 | cons a r=>rw [Lib.join_cons]; simp only [List.length_append,tail_len,List.map_cons,List.sum_cons]; omega
theorem sum_le {α:Type}(f g:α->Nat):∀(l:List α),(∀x∈l,f x<=g x)->(l.map f).sum<=(l.map g).sum
 | [],_=>by simp
 | a::r,h=>by have:=h a (by simp); have:=sum_le f g r fun x hx=>h x (by simp [hx]); simp only [List.map_cons,List.sum_cons]; omega
theorem zip_sum:∀(ks:List Bs) (ws:List Bs),((List.zipWith pairB ks ws).map fun x=>x.length+2).sum<=(ks.map Bs.sz).sum+(ws.map fun x=>x.length+4).sum
 | [],_=>by simp
 | _::_,[]=>by simp
 | a::r,b::t=>by
  have:=zip_sum r t;have h2:(pairB a b).length=a.length+2+b.length:=by simp [pairB]; omega
  have h3:Bs.sz a=a.length+1:=rfl;simp only [List.zipWith_cons_cons,List.map_cons,List.sum_cons,h2,h3]; omega
theorem mul_sum {α:Type}(f:α->Nat) (k:Nat) (l:List α):(l.map fun x=>k*f x).sum=k*(l.map f).sum:=by
 induction l with
 | nil=>simp
 | cons a r ih=>simp only [List.map_cons,List.sum_cons,ih,Nat.mul_add]
theorem count_le (l:List Z7):l.length<=(l.map Z7.sz).sum:=by
 induction l with
 | nil=>simp
 | cons a r ih=>have:=a.pos; simp only [List.length_cons,List.map_cons,List.sum_cons]; omega
theorem wv_len (n:Nat):∀v:Z7,v.sz<n->v.wf->(wv v).length+4<=32*v.sz:=by
 induction n with
 | zero=>intro v h; omega
 | succ n ih =>
  intro v hn hw;have hd:=v.sz_def;have ht:Bs.sz v.FText=v.FText.length+1:=rfl;have hk:Sl.sz Bs.sz v.FKeys=1+(v.FKeys.l.map Bs.sz).sum:=rfl;have hi:Sl.sz Z7.sz v.FItems=1+(v.FItems.l.map Z7.sz).sum:=rfl;have hwf:=(Z7.wf_iff v).1 hw;have hit:((v.FItems.l.map wv).map fun x=>x.length+4).sum<=32*(v.FItems.l.map Z7.sz).sum:=by
   rw [List.map_map,<- mul_sum];exact sum_le _ _ _ fun x hx=>ih x (by have:=Z7.item_lt hx; omega) (hwf.2.2.2.1.2.2 x hx)
  have hi2:((v.FItems.l.map wv).map fun x=>x.length+2).sum<=((v.FItems.l.map wv).map fun x=>x.length+4).sum:=sum_le _ _ _ fun _ _=>by omega
  have hin:(Lib.itoa v.FInt).length<=22:=itoaLen hwf.2.1.1 hwf.2.1.2;have hj:=join_len (v.FItems.l.map wv);have hz:=join_len (List.zipWith pairB v.FKeys.l (v.FItems.l.map wv));have hz2:=zip_sum v.FKeys.l (v.FItems.l.map wv);have hq:=qt_len v.FText;rw [wv_eq]
  (repeat' split)
  all_goals (try simp only [List.length_cons,List.length_append,List.length_nil])<;>omega
theorem join_eq (nl:Bool) (l:List Bs) (h:l.length<=1099511627776/\(Lib.join l sepB).length<=1099511627776):Z138 ⟨nl,l⟩ ([44,32]:Bs)=some (Lib.join l sepB):=by
 unfold Z138 joinA;have h1:l.length<=maxN:=by unfold maxN; omega
 have h2:(Lib.join l [44,32]).length<=maxN:=by have:=h.2; unfold sepB at this; unfold maxN; omega
 rw [if_pos ⟨h1,h2⟩]; rfl
theorem vj29 {nl:Bool}{l:List Bs}(h:l.length<=1099511627776/\(Lib.join l sepB).length<=1099511627776):Z117_j29 ⟨nl,l⟩=some (91::(Lib.join l sepB++[93])):=by
 unfold Z117_j29;rw [join_eq nl l h,oB,catC_ok (by simp only [List.length_cons,List.length_nil]; omega),oB,catC_ok (by simp only [List.length_append,List.length_cons,List.length_nil]; omega),oB];simp
theorem vj50 {nl:Bool}{l:List Bs}(h:l.length<=1099511627776/\(Lib.join l sepB).length<=1099511627776):Z117_j50 ⟨nl,l⟩=some (123::(Lib.join l sepB++[125])):=by
 unfold Z117_j50;rw [join_eq nl l h,oB,catC_ok (by simp only [List.length_cons,List.length_nil]; omega),oB,catC_ok (by simp only [List.length_append,List.length_cons,List.length_nil]; omega),oB];simp
theorem vlist {v:Z7}{rec:Z7->Option Bs}(hr:∀x∈v.FItems.l,rec x=some (wv x)) (hl:v.FItems.l.length<=1048576):∀(n i:Nat) (nl:Bool),i<=v.FItems.l.length->v.FItems.l.length-i<n ->
  ∃nl',Z117_l37 v rec n ⟨nl,(v.FItems.l.take i).map wv⟩ i=Z117_j29 ⟨nl',v.FItems.l.map wv⟩
 | 0,_,_,_,h=>by omega
 | n+1,i,nl,h1,h2=>by
  rw [Z117_l37];by_cases hi:i<v.FItems.l.length
  ·rw [dT (by omega:((i:Nat):Int)<((v.FItems.l.length:Nat):Int)),cond_true,List.getElem?_eq_getElem hi,oB,hr _ (List.getElem_mem hi),oB,
    appC_ok (by decide) (by simp only [List.length_map,List.length_take,List.length_cons,List.length_nil]; omega),oB]
   have e:(v.FItems.l.take i).map wv++[wv v.FItems.l[i]]=(v.FItems.l.take (i+1)).map wv:=by
    rw [List.take_add_one,List.getElem?_eq_getElem hi,List.map_append]; rfl
   simp only [e];exact vlist hr hl n (i+1) _ (by omega) (by omega)
  ·rw [dF (by omega:¬((i:Nat):Int)<((v.FItems.l.length:Nat):Int)),cond_false,List.take_of_length_le (by omega)];exact⟨nl,rfl⟩
theorem vobj {v:Z7}{rec:Z7->Option Bs}(hr:∀x∈v.FItems.l,rec x=some (wv x)) (hb:∀x∈v.FItems.l,(wv x).length<=1099511627) (hkb:∀x∈v.FKeys.l,x.length<=1048576) (hl:v.FItems.l.length<=1048576) (hk:v.FKeys.l.length<=1048576):∀(n i:Nat) (nl:Bool),i<=(List.zipWith pairB v.FKeys.l (v.FItems.l.map wv)).length->(List.zipWith pairB v.FKeys.l (v.FItems.l.map wv)).length-i<n ->
  ∃nl',Z117_l59 v rec n ⟨nl,(List.zipWith pairB v.FKeys.l (v.FItems.l.map wv)).take i⟩ (i:Int)=Z117_j50 ⟨nl',List.zipWith pairB v.FKeys.l (v.FItems.l.map wv)⟩
 | 0,_,_,_,h=>by omega
 | n+1,i,nl,h1,h2=>by
  have hz:(List.zipWith pairB v.FKeys.l (v.FItems.l.map wv)).length=min v.FKeys.l.length v.FItems.l.length:=by rw [List.length_zipWith,List.length_map]
  have hm:(if ((v.FItems.l.length:Nat):Int)<((v.FKeys.l.length:Nat):Int) then((v.FItems.l.length:Nat):Int) else((v.FKeys.l.length:Nat):Int))=((min v.FKeys.l.length v.FItems.l.length:Nat):Int):=by split<;>omega
  rw [Z117_l59,hm];by_cases hi:i<min v.FKeys.l.length v.FItems.l.length
  ·have k1:i<v.FKeys.l.length:=by omega
   have k2:i<v.FItems.l.length:=by omega
   have x1:idxC v.FKeys.l (i:Int)=some v.FKeys.l[i]:=by unfold idxC; rw [if_pos (by omega),Int.toNat_natCast,List.getElem?_eq_getElem k1]
   have x2:idxC v.FItems.l (i:Int)=some v.FItems.l[i]:=by unfold idxC; rw [if_pos (by omega),Int.toNat_natCast,List.getElem?_eq_getElem k2]
   have b1:=hkb _ (List.getElem_mem k1);have b2:=hb _ (List.getElem_mem k2);have ha:addC (i:Int) 1=some ((i+1:Nat):Int):=by rw [addC_ok (by omega)]; rfl
   rw [dT (by omega:((i:Nat):Int)<((min v.FKeys.l.length v.FItems.l.length:Nat):Int)),cond_true,x1,oB,catC_ok (by simp only [List.length_cons,List.length_nil]; omega),oB,x2,oB,hr _ (List.getElem_mem k2),oB,
    catC_ok (by simp only [List.length_append,List.length_cons,List.length_nil]; omega),oB,appC_ok (by decide) (by simp only [List.length_take,List.length_cons,List.length_nil]; omega),oB,ha,oB]
   have e:(List.zipWith pairB v.FKeys.l (v.FItems.l.map wv)).take i++[v.FKeys.l[i]++[58,32]++wv v.FItems.l[i]]=(List.zipWith pairB v.FKeys.l (v.FItems.l.map wv)).take (i+1):=by
    rw [List.take_add_one,List.getElem?_eq_getElem (by omega),List.getElem_zipWith,List.getElem_map]; rfl
   simp only [e];exact vobj hr hb hkb hl hk n (i+1) _ (by omega) (by omega)
  ·rw [dF (by omega:¬((i:Nat):Int)<((min v.FKeys.l.length v.FItems.l.length:Nat):Int)),cond_false,List.take_of_length_le (by omega)];exact⟨nl,rfl⟩
theorem sval_n (n:Nat):∀v:Z7,v.sz<n->v.sz<=1048576->v.wf->Z117_n n v=some (wv v):=by
 induction n with
 | zero=>intro v h; omega
 | succ n ih =>
  intro v hn hs hw;have hd:=v.sz_def;have ht:Bs.sz v.FText=v.FText.length+1:=rfl;have hk:Sl.sz Bs.sz v.FKeys=1+(v.FKeys.l.map Bs.sz).sum:=rfl;have hi:Sl.sz Z7.sz v.FItems=1+(v.FItems.l.map Z7.sz).sum:=rfl;have hwf:=(Z7.wf_iff v).1 hw;have hrec:∀x∈v.FItems.l,Z117_n n x=some (wv x):=fun x hx=>ih x (by have:=Z7.item_lt hx; omega) (by have:=Z7.item_lt hx; omega) (hwf.2.2.2.1.2.2 x hx);have hbl:∀x∈v.FItems.l,(wv x).length+4<=32*x.sz:=fun x hx=>wv_len (x.sz+1) x (by omega) (hwf.2.2.2.1.2.2 x hx)
  have hit:((v.FItems.l.map wv).map fun x=>x.length+4).sum<=32*(v.FItems.l.map Z7.sz).sum:=by
   rw [List.map_map,<- mul_sum];exact sum_le _ _ _ fun x hx=>hbl x hx
  have hi2:((v.FItems.l.map wv).map fun x=>x.length+2).sum<=((v.FItems.l.map wv).map fun x=>x.length+4).sum:=sum_le _ _ _ fun _ _=>by omega
  have hz2:=zip_sum v.FKeys.l (v.FItems.l.map wv);have hj:=join_len (v.FItems.l.map wv);have hz:=join_len (List.zipWith pairB v.FKeys.l (v.FItems.l.map wv));have hc:=count_le v.FItems.l;have hkl:=Sl.len_le (f:=Bs.sz) v.FKeys (fun x=>Bs.sz_pos x);rw [Z117_n,wv_eq];by_cases c1:v.FKind=1
  ·rw [if_pos c1,dT c1,cond_true];by_cases c:v.FInt=0
   ·rw [if_pos c,dT c,cond_true]
   ·rw [if_neg c,dF c,cond_false]
  rw [if_neg c1,dF c1,cond_false];by_cases c2:v.FKind=2
  ·rw [if_pos c2,dT c2,cond_true,Z139_eq,textDecimal_eq hwf.2.1.1 hwf.2.1.2,oB]
  rw [if_neg c2,dF c2,cond_false];by_cases c3:v.FKind=3
  ·rw [if_pos c3,dT c3,cond_true,Z141_eq,tquote_eq _ (by omega),oB]
  rw [if_neg c3,dF c3,cond_false];by_cases c4:v.FKind=4
  ·rw [if_pos c4,dT c4,cond_true]
  rw [if_neg c4,dF c4,cond_false];by_cases c7:v.FKind=7
  ·rw [if_pos c7,dT c7,cond_true,catC_ok (by simp only [List.length_cons,List.length_nil]; omega),oB]; rfl
  rw [if_neg c7,dF c7,cond_false];by_cases c5:v.FKind=5
  ·obtain⟨nl,e⟩:=vlist hrec (by omega) (v.FItems.l.length+1) 0 true (Nat.zero_le _) (by omega);rw [if_pos c5,dT c5,cond_true];refine e.trans (vj29 ⟨by rw [List.length_map]; omega,by omega⟩)
  rw [if_neg c5,dF c5,cond_false];by_cases c6:v.FKind=6
  ·have hzl:(List.zipWith pairB v.FKeys.l (v.FItems.l.map wv)).length<=v.FItems.l.length:=by rw [List.length_zipWith,List.length_map]; omega
   obtain⟨nl,e⟩:=vobj hrec (fun x hx=>by have:=hbl x hx; have:=Z7.item_lt hx; omega) (fun x hx=>by have:=Sl.mem_le (f:=Bs.sz) hx; have:Bs.sz x=x.length+1:=rfl; omega) (by omega) (by omega) F0 0 true (Nat.zero_le _) (by rw [F0_eq]; omega);rw [if_pos c6,dT c6,cond_true];refine e.trans (vj50 ⟨by omega,by omega⟩)
  rw [if_neg c6,dF c6,cond_false]
theorem sval_eq {v:Z7}(hs:v.sz<=1048576) (hw:v.wf):Z117 v=some (wv v):=sval_n F0 v (by rw [F0_eq]; omega) hs hw
theorem wv_le {v:Z7}(hs:v.sz<=1048576) (hw:v.wf):(wv v).length<=33554432:=by have:=wv_len (v.sz+1) v (by omega) hw; omega
def cls:List Int->Bs
 | []=>[]
 | w::r=>cls r++[if w=1 then 33 else 93]
def cnt:List Int->Nat
 | []=>0
 | w::r=>(if w=1 then 0 else 1)+cnt r
theorem cnt_le:∀l,cnt l<=l.length
 | []=>Nat.le_refl _
 | w::r=>by have:=cnt_le r; rw [cnt,List.length_cons]; split<;>omega
theorem cls_len:∀l,(cls l).length=l.length
 | []=>rfl
 | w::r=>by rw [cls,List.length_append,cls_len r]; rfl
def prt (N:Bs) (W:List Int):Bs:=List.replicate (cnt W) 91++(N++cls W)
def Rp (B:Strings_Builder) (l:Bs):Prop:=(l=[]/\B.Fbuf=⟨true,[]⟩)\/(l≠[]/\B.Fbuf=⟨false,l.map fun b=>(b.toNat:Int)⟩)
theorem Rp.buf {B:Strings_Builder}{l:Bs}(h:Rp B l):B.Fbuf.l=l.map fun b=>(b.toNat:Int):=by
 rcases h with ⟨rfl,h⟩|⟨_,h⟩<;>rw [h]; rfl
theorem byte_cast {n:Int}(h0:0<=n) (h1:n<256):((UInt8.ofNat n.toNat).toNat:Int)=n:=by
 rw [UInt8.toNat_ofNat',Nat.mod_eq_of_lt (by omega)]; omega
theorem Rp.wb {B:Strings_Builder}{l:Bs}(h:Rp B l){n:Int}(h0:0<=n) (h1:n<256) (hl:l.length<=1048576):∃B',Z128 B n=some ((),B')/\Rp B' (l++[UInt8.ofNat n.toNat]):=by
 refine⟨⟨true,⟨false,(l++[UInt8.ofNat n.toNat]).map fun b=>(b.toNat:Int)⟩⟩, ?_,.inr ⟨by simp,rfl⟩⟩;have hb:=h.buf;have hlen:B.Fbuf.l.length=l.length:=by rw [hb,List.length_map]
 unfold Z128 Z130 appC;simp only [oB];rw [if_pos (by rw [hlen]; simp only [List.length_cons,List.length_nil]; unfold maxN; omega)];simp only [oB,hb,List.map_append,List.map_cons,List.map_nil,byte_cast h0 h1,List.isEmpty_cons,Bool.and_false]
theorem Rp.str {B:Strings_Builder}{l:Bs}(h:Rp B l):Z127 B=some l:=by
 unfold Z127 bldStr;rw [if_pos]
 ·refine congrArg some ?_;unfold bytesC;rw [h.buf,List.map_map];conv=>rhs; rw [<- List.map_id l]
  refine List.map_congr_left fun b _=>?_;simp
 ·refine⟨?_, ?_⟩
  ·rw [h.buf,List.all_map,List.all_eq_true];intro b _;have:=b.toNat_lt;simp; omega
  ·rcases h with ⟨_,h⟩|⟨h2,h⟩
   ·rw [h]; exact .inl ⟨rfl,rfl⟩
   ·rw [h]; exact .inr ⟨rfl,by simpa using h2⟩
theorem idxP (l:List Int) (i:Nat):idxC l (i:Int)=l[i]?:=by unfold idxC; rw [if_pos (by omega)]; simp
theorem tprint4 (a:TRef) (hN:a.FName.length<=1048576) (hW:a.FWraps.l.length<=1048576):∀(n k:Nat) (B C:Strings_Builder),k<n->k<=a.FWraps.l.length->Rp B (List.replicate (cnt (a.FWraps.l.drop k)) 91)->Rp C (cls (a.FWraps.l.drop k))->Z155_l18 a n ((k:Int)-1) B C=some (prt a.FName a.FWraps.l)
 | 0,_,_,_,h,_,_,_=>by omega
 | n+1,0,B,C,_,_,hB,hC=>by
  have c1:=cnt_le a.FWraps.l;have c2:=cls_len a.FWraps.l;rw [Z155_l18,show decide ((0:Int)<=((0:Nat):Int)-1)=false from rfl,cond_false];unfold Z155_j7;rw [List.drop_zero] at hB hC;rw [hB.str,oB,catC_ok (by simp; omega),oB,hC.str,oB,catC_ok (by simp; omega)];simp [prt]
 | n+1,k+1,B,C,h,hk,hB,hC=>by
  have c1:=cnt_le (a.FWraps.l.drop (k+1));have c2:=cls_len (a.FWraps.l.drop (k+1));simp only [List.length_drop] at c1 c2;obtain⟨w,hw⟩:∃w,a.FWraps.l[k]?=some w:=⟨_,List.getElem?_eq_getElem (show k<a.FWraps.l.length by omega)⟩;have hd:a.FWraps.l.drop k=w::a.FWraps.l.drop (k+1):=by
   obtain⟨hi,rfl⟩:=List.getElem?_eq_some_iff.1 hw;exact List.drop_eq_getElem_cons hi
  have hj:∀B C,Z155_j25 (k:Int) (Z155_l18 a n) B C=Z155_l18 a n ((k:Int)-1) B C:=by
   intro B C;unfold Z155_j25;rw [subC_ok (by omega),oB]
  rw [Z155_l18,show ((k+1:Nat):Int)-1=(k:Int) by omega,show decide ((0:Int)<=(k:Int))=true from dT (by omega),cond_true,idxP,hw,oB];obtain⟨C1,u1,u2⟩:=hC.wb (n:=33) (by omega) (by omega) (by omega);obtain⟨C2,v1,v2⟩:=hC.wb (n:=93) (by omega) (by omega) (by omega);obtain⟨B1,x1,x2⟩:=hB.wb (n:=91) (by omega) (by omega) (by simp; omega);by_cases h1:w=1
  ·rw [dT h1,cond_true,u1,oB,hj];refine tprint4 a hN hW n k B C1 (by omega) (by omega) ?_ ?_
   ·rw [hd,cnt,if_pos h1,Nat.zero_add]; exact hB
   ·rw [hd,cls,if_pos h1]; exact u2
  ·rw [dF h1,cond_false,x1,oB,v1,oB,hj];refine tprint4 a hN hW n k B1 C2 (by omega) (by omega) ?_ ?_
   ·rw [hd,cnt,if_neg h1,Nat.add_comm,List.replicate_succ']; exact x2
   ·rw [hd,cls,if_neg h1]; exact v2
theorem tprint4_eq {a:TRef}(hN:a.FName.length<=1048576) (hW:a.FWraps.l.length<=1048576):Z155 a=some (prt a.FName a.FWraps.l):=by
 unfold Z155;rw [subC_ok (by omega),oB];refine tprint4 a hN hW F0 a.FWraps.l.length _ _ (by rw [F0_eq]; omega) (by omega) ?_ ?_
 ·rw [List.drop_of_length_le (by omega)]; exact .inl ⟨rfl,rfl⟩
 ·rw [List.drop_of_length_le (by omega)]; exact .inl ⟨rfl,rfl⟩
theorem prt_len {N:Bs}{W:List Int}:(prt N W).length<=N.length+2*W.length:=by
 have:=cnt_le W;unfold prt; simp only [List.length_append,List.length_replicate,cls_len]; omega
end Go.Proofs

namespace Go.Proofs
open Go Go.Ab
theorem cmpB_zero:∀s t:Bs,Lib.compareBytes s t=0↔s=t
 | [],[]=>by simp [Lib.compareBytes]
 | [],_::_=>by simp [Lib.compareBytes]
 | _::_,[]=>by simp [Lib.compareBytes]
 | a::r,b::q=>by
  rw [Lib.compareBytes];by_cases h1:a<b
  ·rw [if_pos h1];exact⟨fun h=>(by cases h),fun h=>by cases h; exact absurd h1 (UInt8.lt_irrefl _)⟩
  ·rw [if_neg h1];by_cases h2:b<a
   ·rw [if_pos h2];exact⟨fun h=>(by cases h),fun h=>by cases h; exact absurd h2 (UInt8.lt_irrefl _)⟩
   ·rw [if_neg h2,cmpB_zero r q];have:a=b:=UInt8.le_antisymm (UInt8.not_lt.1 h2) (UInt8.not_lt.1 h1);rw [this]; simp
theorem cmpI (a b:Int):∃c,Z26 a b=some c/\(c=0↔a=b):=by
 unfold Z26 Z27;simp only [decide_true,Bool.not_true,oB,cond_false];by_cases h1:a<b
 ·rw [dT h1]; exact⟨-1,rfl,⟨fun h=>(by cases h),fun h=>by omega⟩⟩
 ·rw [dF h1];by_cases h2:b<a
  ·rw [dT h2]; exact⟨1,rfl,⟨fun h=>(by cases h),fun h=>by omega⟩⟩
  ·rw [dF h2]; exact⟨0,rfl,⟨fun _=>by omega,fun _=>rfl⟩⟩
theorem key_eq (v:Z7) (i:Nat):Z163 v (i:Int)=some (v.FKeys.l.getD i []):=by
 unfold Z163;by_cases h:i<v.FKeys.l.length
 ·have x1:idxC v.FKeys.l (i:Int)=some v.FKeys.l[i]:=by unfold idxC; rw [if_pos (by omega),Int.toNat_natCast,List.getElem?_eq_getElem h]
  rw [dT (by omega:((i:Nat):Int)<((v.FKeys.l.length:Nat):Int)),cond_true,x1,oB,List.getD_eq_getElem?_getD,List.getElem?_eq_getElem h]; rfl
 ·rw [dF (by omega:¬((i:Nat):Int)<((v.FKeys.l.length:Nat):Int)),cond_false,List.getD_eq_getElem?_getD,List.getElem?_eq_none (by omega)]; rfl
def AtR (R:Z7->Z7->Prop) (v w:Z7) (j:Nat):Prop:=v.FKeys.l.getD j []=w.FKeys.l.getD j []/\∃x y,v.FItems.l[j]?=some x/\w.FItems.l[j]?=some y/\R x y
def EqV:Nat->Z7->Z7->Prop
 | 0,_,_=>False
 | n+1,v,w=>v.FKind=w.FKind/\v.FInt=w.FInt/\v.FText=w.FText/\v.FItems.l.length=w.FItems.l.length/\∀j,0<=j->j<v.FItems.l.length->AtR (EqV n) v w j
theorem EqV.symm:∀{n:Nat}{v w:Z7},EqV n v w->EqV n w v
 | 0,_,_,h=>h.elim
 | n+1,v,w,⟨a,b,c,d,e⟩=>⟨a.symm,b.symm,c.symm,d.symm,fun j h0 hj=>by
  obtain⟨k,x,y,h1,h2,h3⟩:=e j h0 (by omega);exact⟨k.symm,y,x,h2,h1,EqV.symm h3⟩⟩
theorem EqV.refl:∀{n:Nat}{v:Z7},v.sz<n->EqV n v v
 | 0,_,h=>by omega
 | n+1,v,h=>⟨rfl,rfl,rfl,rfl,fun j _ hj=>⟨rfl,_,_,List.getElem?_eq_getElem hj,List.getElem?_eq_getElem hj,EqV.refl (by have:=Z7.item_lt (List.getElem_mem hj); omega)⟩⟩
theorem l37_spec {v w:Z7}{rec:Z7->Z7->Option Int}{k:Int->Int->Option Int}{n:Nat}(hk:∀z,k z 1=some z) (hrec:∀x∈v.FItems.l,∀y∈w.FItems.l,∃c,rec x y=some c/\(c=0↔EqV n x y)) (hl:v.FItems.l.length<=1048576) :
  ∀(f i:Nat),i<=min v.FItems.l.length w.FItems.l.length->min v.FItems.l.length w.FItems.l.length-i<f ->
   ∃c,Z161_l37 v w 0 k rec f (i:Int)=some c/\(c=0↔(v.FItems.l.length=w.FItems.l.length/\∀j,i<=j->j<v.FItems.l.length->AtR (EqV n) v w j))
 | 0,_,_,h=>by omega
 | f+1,i,h1,h2=>by
  have hm:(if ((w.FItems.l.length:Nat):Int)<((v.FItems.l.length:Nat):Int) then((w.FItems.l.length:Nat):Int) else((v.FItems.l.length:Nat):Int))=((min v.FItems.l.length w.FItems.l.length:Nat):Int):=by split<;>omega
  rw [Z161_l37,hm];by_cases hi:i<min v.FItems.l.length w.FItems.l.length
  ·have k1:i<v.FItems.l.length:=by omega
   have k2:i<w.FItems.l.length:=by omega
   have x1:idxC v.FItems.l (i:Int)=some v.FItems.l[i]:=by unfold idxC; rw [if_pos (by omega),Int.toNat_natCast,List.getElem?_eq_getElem k1]
   have x2:idxC w.FItems.l (i:Int)=some w.FItems.l[i]:=by unfold idxC; rw [if_pos (by omega),Int.toNat_natCast,List.getElem?_eq_getElem k2]
   have ha:addC (i:Int) 1=some ((i+1:Nat):Int):=by rw [addC_ok (by omega)]; rfl
   rw [dT (by omega:((i:Nat):Int)<((min v.FItems.l.length w.FItems.l.length:Nat):Int)),cond_true,key_eq,oB,key_eq,oB,show Z131 (v.FKeys.l.getD i []) (w.FKeys.l.getD i [])=some (Lib.compareBytes (v.FKeys.l.getD i []) (w.FKeys.l.getD i [])) from rfl,oB];have hc:=cmpB_zero (v.FKeys.l.getD i []) (w.FKeys.l.getD i []);by_cases c0:Lib.compareBytes (v.FKeys.l.getD i []) (w.FKeys.l.getD i [])=0
   ·rw [dT c0,Bool.not_true,cond_false,x1,oB,x2,oB];obtain⟨c,e1,e2⟩:=hrec _ (List.getElem_mem k1) _ (List.getElem_mem k2);rw [e1,oB];by_cases c1:c=0
    ·rw [dT c1,Bool.not_true,cond_false,ha,oB];obtain⟨z,z1,z2⟩:=l37_spec hk hrec hl f (i+1) (by omega) (by omega);refine⟨z,z1,z2.trans ⟨fun⟨u1,u2⟩=>⟨u1,fun j j1 j2=>?_⟩,fun⟨u1,u2⟩=>⟨u1,fun j j1 j2=>u2 j (by omega) j2⟩⟩⟩;rcases Nat.lt_or_ge i j with j3|j3
     ·exact u2 j j3 j2
     ·obtain rfl:j=i:=by omega
      exact⟨hc.1 c0,_,_,List.getElem?_eq_getElem k1,List.getElem?_eq_getElem k2,e2.1 c1⟩
    ·rw [dF c1,Bool.not_false,cond_true];refine⟨c,rfl,⟨fun h=>absurd h c1,fun⟨u1,u2⟩=>?_⟩⟩;obtain⟨_,x,y,g1,g2,g3⟩:=u2 i (Nat.le_refl _) k1;rw [List.getElem?_eq_getElem k1] at g1; rw [List.getElem?_eq_getElem k2] at g2;cases g1; cases g2;exact e2.2 g3
   ·rw [dF c0,Bool.not_false,cond_true];refine⟨_,rfl,⟨fun h=>absurd h c0,fun⟨u1,u2⟩=>hc.2 (u2 i (Nat.le_refl _) k1).1⟩⟩
  ·rw [dF (by omega:¬((i:Nat):Int)<((min v.FItems.l.length w.FItems.l.length:Nat):Int)),cond_false];obtain⟨c,e1,e2⟩:=cmpI ((v.FItems.l.length:Nat):Int) ((w.FItems.l.length:Nat):Int);unfold Z161_j30 Z161_j14;rw [e1,oB,addC_ok (by omega),oB];refine⟨c,hk c,e2.trans ⟨fun h=>⟨by omega,fun j j1 j2=>by omega⟩,fun⟨h,_⟩=>by rw [h]⟩⟩
theorem cmpV (n:Nat):∀v w:Z7,v.sz<n->v.sz<=1048576->∃c,Z161_n n v w=some c/\(c=0↔EqV n v w):=by
 induction n with
 | zero=>intro v w h; omega
 | succ n ih =>
  intro v w hn hs;have hd:=v.sz_def;have hi:Sl.sz Z7.sz v.FItems=1+(v.FItems.l.map Z7.sz).sum:=rfl;have hl:=Sl.len_le (f:=Z7.sz) v.FItems (fun x=>x.pos);obtain⟨m,hm⟩:∃m,F0=m+1+1:=⟨F0-2,by rw [F0_eq]⟩;rw [Z161_n,show Z161_l8 v w (Z161_n n) F0 0 0=Z161_l8 v w (Z161_n n) (m+1+1) 0 0 from by rw [<- hm],Z161_l8,show decide ((0:Int)<1)=true from rfl,cond_true];by_cases c1:v.FKind=w.FKind
  ·rw [dT c1,Bool.not_true,cond_false];by_cases c2:v.FInt=w.FInt
   ·rw [dT c2,Bool.not_true,cond_false];by_cases c3:v.FText=w.FText
    ·rw [beq_iff_eq.mpr c3,Bool.not_true,cond_false];obtain⟨c,e1,e2⟩:=l37_spec (v:=v) (w:=w) (rec:=Z161_n n) (k:=Z161_l8 v w (Z161_n n) (m+1)) (n:=n) (fun z=>by rw [Z161_l8,show decide ((1:Int)<1)=false from rfl,cond_false]; rfl)
      (fun x hx y _=>ih x y (by have:=Z7.item_lt hx; omega) (by have:=Z7.item_lt hx; omega)) (by omega) F0 0 (Nat.zero_le _) (by rw [F0_eq]; omega)
     exact⟨c,e1,e2.trans ⟨fun⟨u1,u2⟩=>⟨c1,c2,c3,u1,u2⟩,fun⟨_,_,_,u1,u2⟩=>⟨u1,u2⟩⟩⟩
    ·rw [show (v.FText==w.FText)=false from beq_eq_false_iff_ne.mpr c3,Bool.not_false,cond_true,show Z131 v.FText w.FText=some (Lib.compareBytes v.FText w.FText) from rfl,oB];exact⟨_,rfl,⟨fun h=>absurd ((cmpB_zero _ _).1 h) c3,fun⟨_,_,h,_⟩=>absurd h c3⟩⟩
   ·obtain⟨c,e1,e2⟩:=cmpI v.FInt w.FInt;rw [dF c2,Bool.not_false,cond_true,e1,oB];exact⟨c,rfl,⟨fun h=>absurd (e2.1 h) c2,fun⟨_,h,_⟩=>absurd h c2⟩⟩
  ·obtain⟨c,e1,e2⟩:=cmpI v.FKind w.FKind;rw [dF c1,Bool.not_false,cond_true,e1,oB];exact⟨c,rfl,⟨fun h=>absurd (e2.1 h) c1,fun⟨h,_⟩=>absurd h c1⟩⟩
def vsX (v w:Z7):Bool:=(Z162_q v w).getD false
theorem vsame {v w:Z7}(hv:v.sz<=1048576):Z162_q v w=some (vsX v w)/\(vsX v w=true↔EqV F0 v w):=by
 obtain⟨c,e1,e2⟩:=cmpV F0 v w (by rw [F0_eq]; omega) hv;have e:Z162_q v w=some (decide (c=0)):=by unfold Z162_q Z161; rw [e1]; rfl
 have e':vsX v w=decide (c=0):=by unfold vsX; rw [e]; rfl
 rw [e'];exact⟨e,by rw [decide_eq_true_iff]; exact e2⟩
theorem vsX_refl {v:Z7}(hv:v.sz<=1048576):vsX v v=true:=(vsame hv).2.2 (EqV.refl (by rw [F0_eq]; omega))
end Go.Proofs

namespace Go.Proofs
open Go Go.Ab
def maxD:Nat:=1500000000000
theorem app88 {s r:Sl Z2}(h:s.l.length+r.l.length<=maxD):appC 88 s r=some ⟨s.nl&&r.l.isEmpty,s.l++r.l⟩:=by
 unfold appC; rw [if_pos];have:(s.l.length+r.l.length)*88<=1500000000000*88:=Nat.mul_le_mul_right _ h;unfold maxN; omega
def DF (o:Option Z0) (n:Bs) (s X:List Z2):Prop:=s.length+X.length<=maxD->∃nl,o=some (Z0.mk n ⟨nl,s++X⟩)
theorem DF.pure (n:Bs) (nl:Bool) (s:List Z2):DF (some (Z0.mk n ⟨nl,s⟩)) n s []:=fun _=>⟨nl,by simp⟩
theorem DF.bind {o:Option Z0}{f:Z0->Option Z0}{n m:Bs}{s X Y:List Z2}(h:DF o n s X) (hf:∀nl,DF (f (Z0.mk n ⟨nl,s++X⟩)) m (s++X) Y):DF (o.bind f) m s (X++Y):=fun hb=>by
 rw [List.length_append] at hb;obtain⟨nl,e⟩:=h (by omega);obtain⟨nl2,e2⟩:=hf nl (by rw [List.length_append]; omega);exact⟨nl2,by rw [e,oB,e2,List.append_assoc]⟩
theorem DF.id {o:Option Z0}{n:Bs}{s X:List Z2}(h:DF o n s X):DF (o.bind fun x=>some x) n s X:=fun hb=>by
 obtain⟨nl,e⟩:=h hb;exact⟨nl,by rw [e]; rfl⟩
theorem DF.of {o:Option Z0}{n:Bs}{s X Y:List Z2}(h:DF o n s X) (e:X=Y):DF o n s Y:=e▸h
theorem add_df (n:Bs) (nl:Bool) (s:List Z2) (k:Int) (f a x y:Bs):DF (Z13_q (Z0.mk n ⟨nl,s⟩) k f a x y) n s [Z2.mk k n f a x y]:=fun hb=>by
 unfold Z13_q;rw [app88 (s:=⟨nl,s⟩) hb,oB];exact⟨_,rfl⟩
def prX (t:TRef):Bs:=prt t.FName t.FWraps.l
def deX (x:Z5):Bs:=bif !x.FHas then [] else wv x.FDefault
def itX (x:Z5):Bs:=bif !x.FHas then prX x.FType else prX x.FType++[32,61,32]++deX x
def saV (a b:TRef):Bool:=a.FName==b.FName&&decide (a.FWraps.l=b.FWraps.l)
structure ROk (t:TRef):Prop where
 n:t.FName.length<=1048576
 w:t.FWraps.l.length<=1048576
structure IOk (x:Z5):Prop where
 r:ROk x.FType
 s:x.FDefault.sz<=1048576
 f:x.FDefault.wf
theorem print_is {t:TRef}(h:ROk t):Z155_q t=some (prX t):=tprint4_eq h.n h.w
theorem prX_len {t:TRef}(h:ROk t):(prX t).length<=3145728:=by
 have:=prt_len (N:=t.FName) (W:=t.FWraps.l); have:=h.n; have:=h.w; unfold prX; omega
theorem def_is {x:Z5}(h:IOk x):Z12_q x=some (deX x)/\(deX x).length<=33554432:=by
 unfold Z12_q deX;cases x.FHas
 ·exact⟨rfl,Nat.zero_le _⟩
 ·rw [Bool.not_true,cond_false,cond_false,sval_eq h.s h.f];exact⟨rfl,wv_le h.s h.f⟩
theorem inp_is {x:Z5}(h:IOk x):Z19_q x=some (itX x):=by
 have h1:=prX_len h.r;have h2:=(def_is h).2;unfold Z19_q itX;rw [print_is h.r,(def_is h).1];cases x.FHas
 ·rfl
 ·rw [Bool.not_true,cond_false,cond_false,oB,catC_ok (by simp only [List.length_cons,List.length_nil]; omega),oB,oB,catC_ok (by simp only [List.length_append,List.length_cons,List.length_nil]; omega),oB]
theorem eqAux (a1:Sl Int):∀(l:List Int) (s:Nat),l.length+s=a1.l.length->Z123_q12 a1 l s=some (if l=a1.l.drop s then Sum.inl () else Sum.inr false)
 | [],s,h=>by
  rw [Z123_q12,if_pos];rw [List.drop_eq_nil_of_le]; simp at h; omega
 | x::r,s,h=>by
  simp only [List.length_cons] at h;have hs:s<a1.l.length:=by omega
  have hg:=List.getElem?_eq_getElem hs;rw [Z123_q12];simp only [Ab.on];rw [hg,oB,eqAux a1 r (s+1) (by omega),Q.drop_of hg];generalize a1.l[s]=y;generalize a1.l.drop (s+1)=t;by_cases e:x=y
  ·subst e; simp only [decide_true,Bool.not_true,cond_false,List.cons.injEq,true_and]
  ·simp [e]
theorem same_is (a b:TRef):Z156_q a b=some (saV a b):=by
 have e:Z123_q a.FWraps b.FWraps=some (decide (a.FWraps.l=b.FWraps.l)):=by
  unfold Z123_q;by_cases h:a.FWraps.l.length=b.FWraps.l.length
  ·rw [dT (by omega:((a.FWraps.l.length:Nat):Int)=((b.FWraps.l.length:Nat):Int)),Bool.not_true,cond_false,eqAux b.FWraps a.FWraps.l 0 (by omega),oB,List.drop_zero];by_cases h2:a.FWraps.l=b.FWraps.l
   ·rw [if_pos h2,dT h2]; rfl
   ·rw [if_neg h2,dF h2]
  ·rw [dF (by omega:¬((a.FWraps.l.length:Nat):Int)=((b.FWraps.l.length:Nat):Int)),dF (fun h2=>h (by rw [h2]))]; rfl
 unfold Z156_q saV;rw [e];cases a.FName==b.FName<;>rfl
def inW (n:Bs) (K:Z1) (p:Bs->Bs×Bs) (x y:Z5):List Z2 :=
 (bif !saV x.FType y.FType then [Z2.mk K.Ftyp n (p x.FName).1 (p x.FName).2 (prX x.FType) (prX y.FType)] else []) ++
 (bif (!(x.FHas==y.FHas))||(x.FHas&&!vsX x.FDefault y.FDefault) then [Z2.mk K.Fdef n (p x.FName).1 (p x.FName).2 (deX x) (deX y)] else [])
def inG (n:Bs) (K:Z1) (p:Bs->Bs×Bs) (x:Z5):List Z2:=[Z2.mk K.Fgone n (p x.FName).1 (p x.FName).2 (itX x) []]
def inN (n:Bs) (K:Z1) (p:Bs->Bs×Bs) (x:Z5):List Z2:=[Z2.mk K.Fadd n (p x.FName).1 (p x.FName).2 [] (itX x)]
def inX (n:Bs) (K:Z1) (p:Bs->Bs×Bs) (A B:List Z5):List Z2:=dif Z5.FName (inW n K p) (inG n K p) A B++lon Z5.FName (inN n K p) B A
theorem inputI (l:List Z5) (s:Bs):Z116_q7 s l=(match l.find? (fun t=>t.FName==s) with|some t=>Sum.inr (t,true)|none=>Sum.inl ()):=by
 induction l with
 | nil=>rfl
 | cons a r ih =>
  rw [Z116_q7,List.find?_cons];simp only [Ab.on];cases a.FName==s
  ·exact ih
  ·rfl
theorem inputOf_is (t:Sl Z5) (s:Bs):(∃y,t.l.find? (fun t=>t.FName==s)=some y/\Z116_q t s=(y,true))\/(t.l.find? (fun t=>t.FName==s)=none/\(Z116_q t s).2=false):=by
 unfold Z116_q;simp only [Ab.on,inputI];cases t.l.find? (fun t=>t.FName==s) with
 | none=>exact .inr ⟨rfl,rfl⟩
 | some y=>exact .inl ⟨y,rfl,rfl⟩
theorem inputs26_df {n:Bs}{K:Z1}{p:Bs->Bs×Bs}{a4:Bs->Option (Bs×Bs)}(ha:∀s,a4 s=some (p s)){B:Sl Z5}(hB:∀y∈B.l,IOk y):∀(A:List Z5) (nl:Bool) (s:List Z2),(∀x∈A,IOk x) ->
  DF (Z18_q26m B K a4 A (Z0.mk n ⟨nl,s⟩)) n s (dif Z5.FName (inW n K p) (inG n K p) A B.l)
 | [],nl,s,_=>by rw [Z18_q26m]; exact DF.pure n nl s
 | x::r,nl,s,hA=>by
  have hx:=hA x (.head _);have ih:=fun nl s=>inputs26_df (n:=n) (K:=K) (p:=p) ha hB r nl s fun y hy=>hA y (.tail _ hy);rw [Z18_q26m];simp only [Ab.on,ha,oB];unfold dif at ih ⊢;rw [List.flatMap_cons];refine DF.bind (n:=n) ?_ fun nl=>ih nl _;rcases inputOf_is B x.FName with ⟨y,e1,e2⟩|⟨e1,e2⟩
  ·have hy:=hB y (List.mem_of_find?_eq_some e1);rw [e1,e2];simp only [Bool.not_true,cond_false];rw [same_is,oB];unfold inW;refine DF.bind (n:=n) ?_ fun nl=>?_
   ·cases saV x.FType y.FType
    ·rw [Bool.not_false,cond_true,cond_true,print_is hx.r,oB,print_is hy.r,oB];exact(add_df _ _ _ _ _ _ _ _).id
    ·exact DF.pure _ _ _
   ·rw [(vsame hx.s).1];have fin:∀b:Bool,DF (bif b then((Z12_q x).bind fun x51=>(Z12_q y).bind fun x52=>(Z13_q (Z0.mk n ⟨nl,s++bif !saV x.FType y.FType then [Z2.mk K.Ftyp n (p x.FName).1 (p x.FName).2 (prX x.FType) (prX y.FType)] else []⟩) K.Fdef (p x.FName).1 (p x.FName).2 x51 x52).bind fun x53=>some x53) else(some (Z0.mk n ⟨nl,s++bif !saV x.FType y.FType then [Z2.mk K.Ftyp n (p x.FName).1 (p x.FName).2 (prX x.FType) (prX y.FType)] else []⟩))) n (s++bif !saV x.FType y.FType then [Z2.mk K.Ftyp n (p x.FName).1 (p x.FName).2 (prX x.FType) (prX y.FType)] else [])
      (bif b then [Z2.mk K.Fdef n (p x.FName).1 (p x.FName).2 (deX x) (deX y)] else []):=by
     intro b;cases b
     ·exact DF.pure _ _ _
     ·rw [cond_true,cond_true,(def_is hx).1,oB,(def_is hy).1,oB];exact(add_df _ _ _ _ _ _ _ _).id
    have e3:∀{k:Bool->Option Z0},guardO (!!(x.FHas==y.FHas)&&x.FHas) (some (vsX x.FDefault y.FDefault)) false k=k ((!!(x.FHas==y.FHas)&&x.FHas)&&vsX x.FDefault y.FDefault):=by
     intro k;cases (!!(x.FHas==y.FHas)&&x.FHas)<;>rfl
    rw [e3];refine(fin _).of ?_;cases x.FHas<;>cases y.FHas<;>cases vsX x.FDefault y.FDefault<;>rfl
  ·rw [e1,e2];simp only [Bool.not_false,cond_true];rw [inp_is hx,oB];exact(add_df _ _ _ _ _ _ _ _).id
theorem inputs6_df {n:Bs}{K:Z1}{p:Bs->Bs×Bs}{a4:Bs->Option (Bs×Bs)}(ha:∀s,a4 s=some (p s)) (B:Sl Z5):∀(A:List Z5) (nl:Bool) (s:List Z2),(∀x∈A,IOk x) ->
  DF (Z18_q6m B K a4 A (Z0.mk n ⟨nl,s⟩)) n s (lon Z5.FName (inN n K p) A B.l)
 | [],nl,s,_=>by rw [Z18_q6m]; exact DF.pure n nl s
 | x::r,nl,s,hA=>by
  have hx:=hA x (.head _);have ih:=fun nl s=>inputs6_df (n:=n) (K:=K) (p:=p) ha B r nl s fun y hy=>hA y (.tail _ hy);rw [Z18_q6m];simp only [Ab.on,ha,oB];unfold lon at ih ⊢;rw [List.flatMap_cons];refine DF.bind (n:=n) ?_ fun nl=>ih nl _;rcases inputOf_is B x.FName with ⟨y,e1,e2⟩|⟨e1,e2⟩
  ·rw [e1,e2]; exact DF.pure _ _ _
  ·rw [e1,e2];simp only [Bool.not_false,cond_true];rw [inp_is hx,oB];exact(add_df _ _ _ _ _ _ _ _).id
theorem inputs_df {n:Bs}{K:Z1}{p:Bs->Bs×Bs}{a4:Bs->Option (Bs×Bs)}(ha:∀s,a4 s=some (p s)){A B:Sl Z5}(hA:∀y∈A.l,IOk y) (hB:∀y∈B.l,IOk y) (nl:Bool) (s:List Z2) :
  DF (Z18_qm (Z0.mk n ⟨nl,s⟩) A B K a4) n s (inX n K p A.l B.l):=by
 unfold Z18_qm inX;refine DF.bind (inputs26_df ha hB A.l nl s hA) fun nl=>?_;simp only [Ab.on];exact(inputs6_df ha A B.l nl _ hB).id
end Go.Proofs

namespace Go.Proofs
open Go Go.Ab
structure FOk (f:Z4):Prop where
 r:ROk f.FType
 a:∀x∈f.FArgs.l,IOk x
structure TOk (t:TDef):Prop where
 f:∀x∈t.FFields.l,FOk x
 i:∀x∈t.FInputs.l,IOk x
 m:t.FMembers.l.length<=1048576
 p:SOk t.FImplements
def K7:Z1:=Z1.mk (7:Int) (8:Int) (9:Int) (10:Int)
def K13:Z1:=Z1.mk (13:Int) (14:Int) (15:Int) (16:Int)
def fdW (n:Bs) (x y:Z4):List Z2:=(bif !saV x.FType y.FType then [Z2.mk 6 n x.FName [] (prX x.FType) (prX y.FType)] else [])++inX n K7 (fun s=>(x.FName,s)) x.FArgs.l y.FArgs.l
def fdG (n:Bs) (x:Z4):List Z2:=[Z2.mk 4 n x.FName [] (prX x.FType) []]
def fdN (n:Bs) (x:Z4):List Z2:=[Z2.mk 5 n x.FName [] [] (prX x.FType)]
def fdX (n:Bs) (A B:List Z4):List Z2:=dif Z4.FName (fdW n) (fdG n) A B++lon Z4.FName (fdN n) B A
theorem fieldI (l:List Z4) (s:Bs):Z114_q7 s l=(match l.find? (fun t=>t.FName==s) with|some t=>Sum.inr (t,true)|none=>Sum.inl ()):=by
 induction l with
 | nil=>rfl
 | cons a r ih =>
  rw [Z114_q7,List.find?_cons];simp only [Ab.on];cases a.FName==s
  ·exact ih
  ·rfl
theorem fieldOf_is (t:TDef) (s:Bs):(∃y,t.FFields.l.find? (fun t=>t.FName==s)=some y/\Z114_q t s=(y,true))\/(t.FFields.l.find? (fun t=>t.FName==s)=none/\(Z114_q t s).2=false):=by
 unfold Z114_q;simp only [Ab.on,fieldI];cases t.FFields.l.find? (fun t=>t.FName==s) with
 | none=>exact .inr ⟨rfl,rfl⟩
 | some y=>exact .inl ⟨y,rfl,rfl⟩
theorem fields24_df {n:Bs}{u:TDef}(hB:∀y∈u.FFields.l,FOk y):∀(A:List Z4) (nl:Bool) (s:List Z2),(∀x∈A,FOk x) ->
  DF (Z16_q24 u A (Z0.mk n ⟨nl,s⟩)) n s (dif Z4.FName (fdW n) (fdG n) A u.FFields.l)
 | [],nl,s,_=>by rw [Z16_q24]; exact DF.pure n nl s
 | x::r,nl,s,hA=>by
  have hx:=hA x (.head _);have ih:=fun nl s=>fields24_df (n:=n) hB r nl s fun y hy=>hA y (.tail _ hy);rw [Z16_q24];simp only [Ab.on];unfold dif at ih ⊢;rw [List.flatMap_cons];refine DF.bind (n:=n) ?_ fun nl=>ih nl _;rcases fieldOf_is u x.FName with ⟨y,e1,e2⟩|⟨e1,e2⟩
  ·have hy:=hB y (List.mem_of_find?_eq_some e1);rw [e1,e2];simp only [Bool.not_true,cond_false];rw [same_is,oB];unfold fdW;refine DF.bind (n:=n) ?_ fun nl=>?_
   ·cases saV x.FType y.FType
    ·rw [Bool.not_false,cond_true,cond_true,print_is hx.r,oB,print_is hy.r,oB];exact(add_df _ _ _ _ _ _ _ _).id
    ·exact DF.pure _ _ _
   ·exact(inputs_df (p:=fun s=>(x.FName,s)) (fun _=>rfl) hx.a hy.a nl _).id
  ·rw [e1,e2];simp only [Bool.not_false,cond_true];rw [print_is hx.r,oB];exact(add_df _ _ _ _ _ _ _ _).id
theorem fields6_df {n:Bs}(u:TDef):∀(A:List Z4) (nl:Bool) (s:List Z2),(∀x∈A,FOk x) ->
  DF (Z16_q6 u A (Z0.mk n ⟨nl,s⟩)) n s (lon Z4.FName (fdN n) A u.FFields.l)
 | [],nl,s,_=>by rw [Z16_q6]; exact DF.pure n nl s
 | x::r,nl,s,hA=>by
  have hx:=hA x (.head _);have ih:=fun nl s=>fields6_df (n:=n) u r nl s fun y hy=>hA y (.tail _ hy);rw [Z16_q6];simp only [Ab.on];unfold lon at ih ⊢;rw [List.flatMap_cons];refine DF.bind (n:=n) ?_ fun nl=>ih nl _;rcases fieldOf_is u x.FName with ⟨y,e1,e2⟩|⟨e1,e2⟩
  ·rw [e1,e2]; exact DF.pure _ _ _
  ·rw [e1,e2];simp only [Bool.not_false,cond_true];rw [print_is hx.r,oB];exact(add_df _ _ _ _ _ _ _ _).id
theorem fields_df {n:Bs}{t u:TDef}(ht:TOk t) (hu:TOk u) (nl:Bool) (s:List Z2):DF (Z16_q (Z0.mk n ⟨nl,s⟩) t u) n s (fdX n t.FFields.l u.FFields.l):=by
 unfold Z16_q fdX;refine DF.bind (fields24_df hu.f t.FFields.l nl s ht.f) fun nl=>?_;simp only [Ab.on];exact(fields6_df t u.FFields.l nl _ hu.f).id
theorem names_loop:∀(l:List Z6) (nl:Bool) (s:List Bs),(nl=true->s=[])->s.length+l.length<=2097152->∃nl',Z23_q8 l ⟨nl,s⟩=some ⟨nl',s++l.map Z6.FName⟩/\(nl'=true->s++l.map Z6.FName=[])
 | [],nl,s,h,_=>⟨nl,by rw [Z23_q8]; simp,by simpa using h⟩
 | x::r,nl,s,h,hl=>by
  simp only [List.length_cons] at hl;rw [Z23_q8];simp only [Ab.on];rw [appC_ok (by decide) (by simp only [List.length_cons,List.length_nil]; omega),oB];obtain⟨nl',e1,e2⟩:=names_loop r (nl&&([x.FName]:List Bs).isEmpty) (s++[x.FName]) (fun e=>by simp at e) (by simp only [List.length_append,List.length_cons,List.length_nil]; omega);rw [List.append_assoc] at e1 e2;exact⟨nl',e1,e2⟩
theorem names_is {t:TDef}(h:t.FMembers.l.length<=1048576):∃nl,Z23_q t.FMembers=some ⟨nl,t.FMembers.l.map Z6.FName⟩/\SOk (⟨nl,t.FMembers.l.map Z6.FName⟩:Sl Bs):=by
 obtain⟨nl,e1,e2⟩:=names_loop t.FMembers.l true [] (fun _=>rfl) (by simp only [List.length_nil]; omega);refine⟨nl, ?_, ?_, ?_⟩
 ·unfold Z23_q;rw [show (Sl.nil:Sl Bs)=⟨true,[]⟩ from rfl,e1,oB]; rfl
 ·simpa using e2
 ·simp only [List.length_map]; omega
def mis (a b:List Bs):List Bs:=a.filter fun s=>!b.contains s
theorem indexX (s:Bs) (l:List Bs):∀n:Nat,(l.contains s=false->Z124_q6 s l n=Sum.inl ())/\(l.contains s=true->∃m:Nat,Z124_q6 s l n=Sum.inr (m:Int)):=by
 induction l with
 | nil=>intro n; exact⟨fun _=>rfl,fun h=>by simp at h⟩
 | cons a r ih =>
  intro n;rw [Z124_q6];simp only [Ab.on,List.contains_cons];cases s==a
  ·simp only [Bool.false_or,cond_false]; exact ih (n+1)
  ·simp only [Bool.true_or,cond_true]; exact⟨fun h=>by simp at h,fun _=>⟨n,rfl⟩⟩
theorem contains_is (a:Sl Bs) (s:Bs):Z120_q a s=a.l.contains s:=by
 unfold Z120_q Z124_q;simp only [Ab.on];have h:=indexX s a.l 0;cases hc:a.l.contains s
 ·rw [h.1 hc]; rfl
 ·obtain⟨m,e⟩:=h.2 hc;rw [e]; exact dT (by simp)
theorem clone_is {a:Sl Bs}(h:SOk a):∃nl,Z119_q a=some ⟨nl,a.l⟩:=by
 unfold Z119_q;cases hn:a.nl
 ·rw [cond_false,appC_ok (by decide) (by have:=h.2; simp only [List.length_nil]; omega),oB]; exact⟨_,rfl⟩
 ·rw [cond_true,h.1 hn]; exact⟨true,rfl⟩
theorem missing_is {a:Sl Bs}(h:SOk a) (b:Sl Bs):∃nl,Z21_q a b=some ⟨nl,mis a.l b.l⟩:=by
 obtain⟨nl,e⟩:=clone_is h;unfold Z21_q;rw [e,oB,oB];refine⟨nl, ?_⟩;have h2:(fun x=>!((fun y0=>Z22 y0 b) x).getD false)=fun s=>!b.l.contains s:=by
  funext x
  show (!((Z22 x b).getD false))=_;rw [Z22_eq,Option.getD_some];unfold Z22_q;simp only [Ab.on,contains_is]
 unfold delL mis;rw [h2]
theorem mem57_df {n:Bs}:∀(l:List Bs) (nl:Bool) (s:List Z2),DF (Z14_q57 l (Z0.mk n ⟨nl,s⟩)) n s (l.map fun x=>Z2.mk 11 n x [] [] [])
 | [],nl,s=>by rw [Z14_q57]; exact DF.pure n nl s
 | x::r,nl,s=>by
  rw [Z14_q57];simp only [Ab.on];exact DF.bind (X:=[_]) (add_df n nl s _ _ _ _ _) fun nl=>mem57_df r nl _
theorem mem44_df {n:Bs}:∀(l:List Bs) (nl:Bool) (s:List Z2),DF (Z14_q44 l (Z0.mk n ⟨nl,s⟩)) n s (l.map fun x=>Z2.mk 12 n x [] [] [])
 | [],nl,s=>by rw [Z14_q44]; exact DF.pure n nl s
 | x::r,nl,s=>by
  rw [Z14_q44];simp only [Ab.on];exact DF.bind (X:=[_]) (add_df n nl s _ _ _ _ _) fun nl=>mem44_df r nl _
theorem mem31_df {n:Bs}:∀(l:List Bs) (nl:Bool) (s:List Z2),DF (Z14_q31 l (Z0.mk n ⟨nl,s⟩)) n s (l.map fun x=>Z2.mk 17 n [] [] x [])
 | [],nl,s=>by rw [Z14_q31]; exact DF.pure n nl s
 | x::r,nl,s=>by
  rw [Z14_q31];simp only [Ab.on];exact DF.bind (X:=[_]) (add_df n nl s _ _ _ _ _) fun nl=>mem31_df r nl _
theorem mem18_df {n:Bs}:∀(l:List Bs) (nl:Bool) (s:List Z2),DF (Z14_q18 l (Z0.mk n ⟨nl,s⟩)) n s (l.map fun x=>Z2.mk 18 n [] [] [] x)
 | [],nl,s=>by rw [Z14_q18]; exact DF.pure n nl s
 | x::r,nl,s=>by
  rw [Z14_q18];simp only [Ab.on];exact DF.bind (X:=[_]) (add_df n nl s _ _ _ _ _) fun nl=>mem18_df r nl _
def nam (t:TDef):List Bs:=t.FMembers.l.map Z6.FName
def dfX (n:Bs) (x y:TDef):List Z2 :=
 fdX n x.FFields.l y.FFields.l++((mis (nam x) (nam y)).map (fun s=>Z2.mk 11 n s [] [] [])++((mis (nam y) (nam x)).map (fun s=>Z2.mk 12 n s [] [] [])++(inX n K13 (fun s=>(s,[])) x.FInputs.l y.FInputs.l ++
  ((mis x.FImplements.l y.FImplements.l).map (fun s=>Z2.mk 17 n [] [] s [])++(mis y.FImplements.l x.FImplements.l).map (fun s=>Z2.mk 18 n [] [] [] s)))))
theorem def_df {n:Bs}{t u:TDef}(ht:TOk t) (hu:TOk u) (nl:Bool) (s:List Z2):DF (Z14_q (Z0.mk n ⟨nl,s⟩) t u) n s (dfX n t u):=by
 obtain⟨n1,e1,o1⟩:=names_is ht.m;obtain⟨n2,e2,o2⟩:=names_is hu.m;obtain⟨n3,e3⟩:=missing_is o1 ⟨n2,u.FMembers.l.map Z6.FName⟩;obtain⟨n4,e4⟩:=missing_is o2 ⟨n1,t.FMembers.l.map Z6.FName⟩;obtain⟨n5,e5⟩:=missing_is ht.p u.FImplements;obtain⟨n6,e6⟩:=missing_is hu.p t.FImplements;unfold Z14_q dfX;refine DF.bind (fields_df ht hu nl s) fun nl=>?_;rw [e1,oB,e2,oB,e3,oB]
 simp only [Ab.on];refine DF.bind (mem57_df _ nl _) fun nl=>?_;rw [e4,oB];refine DF.bind (mem44_df _ nl _) fun nl=>?_;refine DF.bind (inputs_df (p:=fun s=>(s,[])) (fun s=>rfl) ht.i hu.i nl _) fun nl=>?_;rw [e5,oB];refine DF.bind (mem31_df _ nl _) fun nl=>?_;rw [e6,oB];exact(mem18_df _ nl _).id
def tyG (t:TDef):List Z2:=[Z2.mk 1 t.FName [] [] (Z20_q t.FKind) []]
def tyN (t:TDef):List Z2:=[Z2.mk 2 t.FName [] [] [] (Z20_q t.FKind)]
def tyW (x y:TDef):List Z2:=bif !decide (x.FKind=y.FKind) then [Z2.mk 3 x.FName [] [] (Z20_q x.FKind) (Z20_q y.FKind)] else dfX x.FName x y
def diffX (A B:List TDef):List Z2:=lon TDef.FName tyG A B++(prs TDef.FName tyW A B++lon TDef.FName tyN B A)
theorem findI (l:List TDef) (s:Bs):Z115_q7 s l=(match l.find? (fun t=>t.FName==s) with|some t=>Sum.inr (t,true)|none=>Sum.inl ()):=by
 induction l with
 | nil=>rfl
 | cons a r ih =>
  rw [Z115_q7,List.find?_cons];simp only [Ab.on];cases a.FName==s
  ·exact ih
  ·rfl
theorem find_is (d:TDoc) (s:Bs):(∃y,d.FDefs.l.find? (fun t=>t.FName==s)=some y/\Z115_q d s=(y,true))\/(d.FDefs.l.find? (fun t=>t.FName==s)=none/\(Z115_q d s).2=false):=by
 unfold Z115_q;simp only [Ab.on,findI];cases d.FDefs.l.find? (fun t=>t.FName==s) with
 | none=>exact .inr ⟨rfl,rfl⟩
 | some y=>exact .inl ⟨y,rfl,rfl⟩
def DA (o:Option Z0) (s X:List Z2):Prop:=s.length+X.length<=maxD->∃n nl,o=some (Z0.mk n ⟨nl,s++X⟩)
theorem DA.pure (n:Bs) (nl:Bool) (s:List Z2):DA (some (Z0.mk n ⟨nl,s⟩)) s []:=fun _=>⟨n,nl,by simp⟩
theorem DA.bind {o:Option Z0}{f:Z0->Option Z0}{s X Y:List Z2}(h:DA o s X) (hf:∀n nl,DA (f (Z0.mk n ⟨nl,s++X⟩)) (s++X) Y):DA (o.bind f) s (X++Y):=fun hb=>by
 rw [List.length_append] at hb;obtain⟨n,nl,e⟩:=h (by omega);obtain⟨m,nl2,e2⟩:=hf n nl (by rw [List.length_append]; omega);exact⟨m,nl2,by rw [e,oB,e2,List.append_assoc]⟩
theorem DF.da {o:Option Z0}{n:Bs}{s X:List Z2}(h:DF o n s X):DA o s X:=fun hb=>by
 obtain⟨nl,e⟩:=h hb;exact⟨n,nl,e⟩
theorem diff56_da (b:TDoc):∀(A:List TDef) (n:Bs) (nl:Bool) (s:List Z2),DA (Z10_q56 b A (Z0.mk n ⟨nl,s⟩)) s (lon TDef.FName tyG A b.FDefs.l)
 | [],n,nl,s=>by rw [Z10_q56]; exact DA.pure n nl s
 | x::r,n,nl,s=>by
  have ih:=fun n nl s=>diff56_da b r n nl s;rw [Z10_q56];simp only [Ab.on];unfold lon at ih ⊢;rw [List.flatMap_cons];refine DA.bind ?_ fun n nl=>ih n nl _;rcases find_is b x.FName with ⟨y,e1,e2⟩|⟨e1,e2⟩
  ·rw [e1,e2]; exact DA.pure _ _ _
  ·rw [e1,e2];exact(add_df _ _ _ _ _ _ _ _).id.da
theorem diff14_da (b:TDoc):∀(A:List TDef) (n:Bs) (nl:Bool) (s:List Z2),DA (Z10_q14 b A (Z0.mk n ⟨nl,s⟩)) s (lon TDef.FName tyN A b.FDefs.l)
 | [],n,nl,s=>by rw [Z10_q14]; exact DA.pure n nl s
 | x::r,n,nl,s=>by
  have ih:=fun n nl s=>diff14_da b r n nl s;rw [Z10_q14];simp only [Ab.on];unfold lon at ih ⊢;rw [List.flatMap_cons];refine DA.bind ?_ fun n nl=>ih n nl _;rcases find_is b x.FName with ⟨y,e1,e2⟩|⟨e1,e2⟩
  ·rw [e1,e2]; exact DA.pure _ _ _
  ·rw [e1,e2];exact(add_df _ _ _ _ _ _ _ _).id.da
theorem diff33_da {b:TDoc}(hb:∀t∈b.FDefs.l,TOk t):∀(A:List TDef) (n:Bs) (nl:Bool) (s:List Z2),(∀t∈A,TOk t)->DA (Z10_q33 b A (Z0.mk n ⟨nl,s⟩)) s (prs TDef.FName tyW A b.FDefs.l)
 | [],n,nl,s,_=>by rw [Z10_q33]; exact DA.pure n nl s
 | x::r,n,nl,s,hA=>by
  have ih:=fun n nl s=>diff33_da hb r n nl s fun y hy=>hA y (.tail _ hy);rw [Z10_q33];simp only [Ab.on];unfold prs at ih ⊢;rw [List.flatMap_cons];refine DA.bind ?_ fun n nl=>ih n nl _;rcases find_is b x.FName with ⟨y,e1,e2⟩|⟨e1,e2⟩
  ·rw [e1,e2];simp only [Bool.not_true,cond_false];unfold tyW;cases decide (x.FKind=y.FKind)
   ·exact(add_df _ _ _ _ _ _ _ _).id.da
   ·exact(def_df (hA x (.head _)) (hb y (List.mem_of_find?_eq_some e1)) nl s).id.da
  ·rw [e1,e2]; exact DA.pure _ _ _
theorem diff_is {a b:TDoc}(ha:∀t∈a.FDefs.l,TOk t) (hb:∀t∈b.FDefs.l,TOk t) (hl:(diffX a.FDefs.l b.FDefs.l).length<=maxD):∃nl,Z10_q a b=some ⟨nl,diffX a.FDefs.l b.FDefs.l⟩:=by
 have h:DA (Option.bind (Z10_q56 b a.FDefs.l (Z0.mk ([]:Bs) (Sl.nil:Sl Z2))) fun y58=>on (y58) fun y6=>Option.bind (Z10_q33 b a.FDefs.l y6) fun y35=>on (y35) fun y8=>Z10_q14 a b.FDefs.l y8) [] (diffX a.FDefs.l b.FDefs.l):=by
  unfold diffX;refine DA.bind (diff56_da b a.FDefs.l [] true []) fun n nl=>?_;simp only [Ab.on];refine DA.bind (diff33_da hb a.FDefs.l n nl _ ha) fun n nl=>?_;exact diff14_da a b.FDefs.l n nl _
 obtain⟨n,nl,e⟩:=h (by simpa using hl);refine⟨nl, ?_⟩;have e':Z10_q a b=(Option.bind (Z10_q56 b a.FDefs.l (Z0.mk ([]:Bs) (Sl.nil:Sl Z2))) fun y58=>on (y58) fun y6=>Option.bind (Z10_q33 b a.FDefs.l y6) fun y35=>on (y35) fun y8=>Z10_q14 a b.FDefs.l y8).bind fun z=>some z.Fout:=by
  unfold Z10_q;simp only [Ab.on,Option.bind_assoc]
 rw [e',e]; rfl
end Go.Proofs

namespace Go.Proofs
open Go Go.Ab
def swK (k:Int):Int:=if k=1\/k=11\/k=13\/k=17\/k=4\/k=7 then k+1 else if k=2\/k=12\/k=14\/k=18\/k=5\/k=8 then k-1 else k
structure KOk (K:Z1):Prop where
 g:swK K.Fgone=K.Fadd
 a:swK K.Fadd=K.Fgone
 t:swK K.Ftyp=K.Ftyp
 d:swK K.Fdef=K.Fdef
structure DDst (t:TDef):Prop where
 f:Dst Z4.FName t.FFields.l
 a:∀x∈t.FFields.l,Dst Z5.FName x.FArgs.l
 i:Dst Z5.FName t.FInputs.l
theorem inX_len (n:Bs) (K:Z1) (p:Bs->Bs×Bs){A B:List Z5}(dA:Dst Z5.FName A) (dB:Dst Z5.FName B):(inX n K p A B).length<=2*A.length+B.length:=by
 have h:=dif_len (w:=inW n K p) (g:=inG n K p) (n:=inN n K p) (f:=fun _=>2) (e:=fun _=>1) dA dB (fun x _ y _=>by
  unfold inW; rw [List.length_append];have h1:(bif !saV x.FType y.FType then [Z2.mk K.Ftyp n (p x.FName).1 (p x.FName).2 (prX x.FType) (prX y.FType)] else []).length<=1:=by cases saV x.FType y.FType<;>simp
  have h2:(bif (!(x.FHas==y.FHas))||(x.FHas&&!vsX x.FDefault y.FDefault) then [Z2.mk K.Fdef n (p x.FName).1 (p x.FName).2 (deX x) (deX y)] else []).length<=1:=by cases ((!(x.FHas==y.FHas))||(x.FHas&&!vsX x.FDefault y.FDefault))<;>simp
  omega) (fun _ _=>by unfold inG; simp) (fun _ _=>by unfold inN; simp)
 have h2:∀(c:Nat) (l:List Z5),(l.map fun _=>c).sum=c*l.length:=by
  intro c l;induction l with
  | nil=>rfl
  | cons a r ih=>simp only [List.map_cons,List.sum_cons,List.length_cons,ih,Nat.mul_succ]; omega
 rw [h2,h2] at h;unfold inX; omega
def fw (f:Z4):Nat:=1+f.FArgs.l.length
def tw (t:TDef):Nat:=(t.FFields.l.map fw).sum+t.FMembers.l.length+t.FInputs.l.length+t.FImplements.l.length
def dw (A:List TDef):Nat:=(A.map fun t=>1+tw t).sum
theorem mulS {α:Type}(c:Nat) (f:α->Nat) (l:List α):(l.map fun x=>c*f x).sum=c*(l.map f).sum:=by
 induction l with
 | nil=>simp
 | cons a r ih=>simp only [List.map_cons,List.sum_cons,ih,Nat.mul_add]
theorem fdX_len (n:Bs){t u:TDef}(dt:DDst t) (du:DDst u):(fdX n t.FFields.l u.FFields.l).length<=2*(t.FFields.l.map fw).sum+(u.FFields.l.map fw).sum:=by
 have h:=dif_len (w:=fdW n) (g:=fdG n) (n:=fdN n) (f:=fun x=>2*fw x) (e:=fw) dt.f du.f (fun x hx y hy=>by
  unfold fdW; rw [List.length_append];have h1:(bif !saV x.FType y.FType then [Z2.mk 6 n x.FName [] (prX x.FType) (prX y.FType)] else []).length<=1:=by cases saV x.FType y.FType<;>simp
  have h2:=inX_len n K7 (fun s=>(x.FName,s)) (dt.a x hx) (du.a y hy);unfold fw; omega) (fun _ _=>by unfold fdG fw; simp; omega) (fun _ _=>by unfold fdN fw; simp)
 rw [mulS] at h;unfold fdX; omega
theorem mis_len (a b:List Bs):(mis a b).length<=a.length:=List.length_filter_le _ _
theorem dfX_len (n:Bs){t u:TDef}(dt:DDst t) (du:DDst u):(dfX n t u).length<=2*tw t+tw u:=by
 have h1:=fdX_len n dt du;have h2:=inX_len n K13 (fun s=>(s,[])) dt.i du.i;have h3:=mis_len (nam t) (nam u);have h4:=mis_len (nam u) (nam t);have h5:=mis_len t.FImplements.l u.FImplements.l;have h6:=mis_len u.FImplements.l t.FImplements.l;have h7:(nam t).length=t.FMembers.l.length:=List.length_map _;have h8:(nam u).length=u.FMembers.l.length:=List.length_map _;unfold dfX tw;simp only [List.length_append,List.length_map]
 omega
theorem diffX_len {A B:List TDef}(dA:Dst TDef.FName A) (dB:Dst TDef.FName B) (eA:∀t∈A,DDst t) (eB:∀t∈B,DDst t):(diffX A B).length<=2*dw A+dw B:=by
 have h:=dif_len (w:=tyW) (g:=tyG) (n:=tyN) (f:=fun x=>2*(1+tw x)) (e:=fun x=>1+tw x) dA dB (fun x hx y hy=>by
  unfold tyW;have:=dfX_len x.FName (eA x hx) (eB y hy);cases decide (x.FKind=y.FKind)
  ·simp; omega
  ·simp only [Bool.not_true,cond_false]; omega) (fun _ _=>by unfold tyG; simp; omega) (fun _ _=>by unfold tyN; simp)
 rw [mulS] at h;have h2:=(dif_split TDef.FName tyW tyG A B).length_eq;unfold diffX dw;rw [List.length_append] at h h2;simp only [List.length_append];omega
end Go.Proofs

namespace Go.Proofs
open Go Go.Ab
theorem Gr.two {o:Option Int}{k:Int->Option Int}{s:Int}{a b c:Nat}(h:Gr o 0 a) (hs:0<=s/\s+a<=1099511627776) (hc:a+b<=c) (hk:∀r,s<=r->r<=s+a->Gr (k r) r b):Gr (o.bind fun x=>(addC s x).bind k) s c:=by
 obtain⟨x,e,h1,h2⟩:=h;rw [e,oB];exact Gr.bind (a:=a) (b:=b) (Gr.add (by omega) hs) hc hk
theorem args_w (a1:Int) (h7:TDir):∀(l:List TArg) (s:Int),(∀x∈l,x.sz<=1048576)->0<=s->s+(l.map TArg.sz).sum<=1073741824->Gr (Z68_q19 a1 h7 l s) s (l.map TArg.sz).sum
 | [],s,_,_,_=>Gr.refl _ _
 | a::r,s,hx,h0,h=>by
  simp only [List.map_cons,List.sum_cons] at h ⊢;have hd:=a.sz_def;have hp:=Bs.sz_pos a.FName;have hxa:=hx a (by simp);rw [Z68_q19];cases decide (s<=a1) with
  | false=>exact Gr.refl _ _
  | true =>
   simp only [cond_true,Ab.on];refine Gr.bind (a:=1) (b:=a.FValue.sz+(r.map TArg.sz).sum) (Gr.add (by omega) (by omega)) (by omega) fun x h1 h2=>?_;exact Gr.two (b:=(r.map TArg.sz).sum) (value_W a1 a.FValue (by omega)) (by omega) (by omega) fun y h3 h4=>args_w a1 h7 r y (fun z hz=>hx z (by simp [hz])) (by omega) (by omega)
theorem dirs_loop_w (a1:Int):∀(l:List TDir) (s:Int),(∀x∈l,x.sz<=1048576)->0<=s->s+(l.map TDir.sz).sum<=1073741824->Gr (Z68_q7 a1 l s) s (l.map TDir.sz).sum
 | [],s,_,_,_=>Gr.refl _ _
 | a::r,s,hx,h0,h=>by
  simp only [List.map_cons,List.sum_cons] at h ⊢;have hd:=a.sz_def;have hp:=Bs.sz_pos a.FName;have hi:Sl.sz TArg.sz a.FArgs=1+(a.FArgs.l.map TArg.sz).sum:=rfl;have hxa:=hx a (by simp);rw [Z68_q7];cases decide (s<=a1) with
  | false=>exact Gr.refl _ _
  | true =>
   simp only [cond_true,Ab.on];refine Gr.bind (a:=1) (b:=(a.FArgs.l.map TArg.sz).sum+(r.map TDir.sz).sum) (Gr.add (by omega) (by omega)) (by omega) fun x h1 h2=>?_;exact Gr.bind (b:=(r.map TDir.sz).sum) (args_w a1 a a.FArgs.l x (fun z hz=>by have:=TDir.arg_le hz; omega) (by omega) (by omega)) (by omega) fun y h3 h4=>dirs_loop_w a1 r y (fun z hz=>hx z (by simp [hz])) (by omega) (by omega)
theorem dirs_w (a1:Int) (s:Sl TDir) (h:Sl.sz TDir.sz s<=1048576):Gr (Z68_q s a1) 0 (Sl.sz TDir.sz s):=by
 have hi:Sl.sz TDir.sz s=1+(s.l.map TDir.sz).sum:=rfl;obtain⟨r,e,h1,h2⟩:=dirs_loop_w a1 s.l 0 (fun x hx=>by have:=Sl.mem_le (f:=TDir.sz) hx; omega) (by omega) (by omega);unfold Z68_q; rw [e]; exact⟨r,rfl,h1,by omega⟩
def Gw (o:Option Int) (s:Int) (b w:Nat):Prop:=∃r,o=some r/\s<=r/\r<=s+b/\(r<=600->s+w<=r)
theorem Gr.w {o:Option Int}{s:Int}{b:Nat}(h:Gr o s b):Gw o s b 0:=by
 obtain⟨r,e,h1,h2⟩:=h;exact⟨r,e,h1,h2,fun _=>by omega⟩
theorem Gw.none (s:Int) (b:Nat):Gw (some s) s b 0:=⟨s,rfl,by omega,by omega,fun _=>by omega⟩
theorem Gw.stop {s:Int}(b w:Nat) (h:¬s<=600):Gw (some s) s b w:=⟨s,rfl,by omega,by omega,fun h2=>absurd h2 h⟩
theorem Gw.bind {o:Option Int}{k:Int->Option Int}{s:Int}{a b c w1 w2 w:Nat}(h:Gw o s a w1) (hc:a+b<=c) (hw:w=w1+w2) (hk:∀r,s<=r->r<=s+a->Gw (k r) r b w2):Gw (o.bind k) s c w:=by
 obtain⟨r,e,h1,h2,h3⟩:=h;obtain⟨r2,e2,h4,h5,h6⟩:=hk r h1 h2;exact⟨r2,by rw [e]; exact e2,by omega,by omega,fun h=>by have:=h3 (by omega); have:=h6 h; omega⟩
theorem Gw.add {x s:Int}{b w:Nat}(hx:(w:Int)<=x/\x<=b) (hs:0<=s/\s+b<=1099511627776):Gw (addC s x) s b w:=⟨s+x,addC_ok (by omega),by omega,by omega,fun _=>by omega⟩
theorem Gw.two {o:Option Int}{k:Int->Option Int}{s:Int}{a b c w1 w2 w:Nat}(h:Gw o 0 a w1) (hs:0<=s/\s+a<=1099511627776) (hc:a+b<=c) (hw:w=w1+w2) (hk:∀r,s<=r->r<=s+a->Gw (k r) r b w2):Gw (o.bind fun x=>(addC s x).bind k) s c w:=by
 obtain⟨x,e,h1,h2,h3⟩:=h;rw [e,oB,addC_ok (by omega),oB];obtain⟨r2,e2,h4,h5,h6⟩:=hk (s+x) (by omega) (by omega);exact⟨r2,e2,by omega,by omega,fun h=>by have:=h3 (by omega); have:=h6 h; omega⟩
theorem inputs_loop_g:∀(l:List Z5) (s:Int),(∀x∈l,x.sz<=1048576)->0<=s->s+(l.map Z5.sz).sum<=1073741824->Gw (Z69_q7 600 l s) s (l.map Z5.sz).sum l.length
 | [],s,_,_,_=>Gw.none _ _
 | a::r,s,hx,h0,h=>by
  simp only [List.map_cons,List.sum_cons] at h ⊢;have hd:=a.sz_def;have hp:=Bs.sz_pos a.FName;have hw:=TRef.wraps_le a.FType;have hxa:=hx a (by simp);rw [Z69_q7];by_cases hs:s<=600
  ·rw [dT hs];simp only [cond_true,Ab.on];refine Gw.bind (a:=1) (b:=a.FType.FWraps.l.length+a.FDefault.sz+Sl.sz TDir.sz a.FDirs+(r.map Z5.sz).sum) (w1:=1) (w2:=r.length) (Gw.add (by omega) (by omega)) (by omega) (by simp; omega) fun x h1 h2=>?_;refine Gw.bind (a:=a.FType.FWraps.l.length) (b:=a.FDefault.sz+Sl.sz TDir.sz a.FDirs+(r.map Z5.sz).sum) (w1:=0) (w2:=r.length) (Gw.add (by omega) (by omega)) (by omega) (by omega) fun y h3 h4=>?_
   refine Gw.two (b:=Sl.sz TDir.sz a.FDirs+(r.map Z5.sz).sum) (w2:=r.length) (value_W 600 a.FDefault (by omega)).w (by omega) (by omega) (by omega) fun z h5 h6=>?_;exact Gw.two (b:=(r.map Z5.sz).sum) (w2:=r.length) (dirs_w 600 a.FDirs (by omega)).w (by omega) (by omega) (by omega) fun q h7 h8=>inputs_loop_g r q (fun z hz=>hx z (by simp [hz])) (by omega) (by omega)
  ·rw [dF hs]; exact Gw.stop _ _ hs
theorem inputs_g (s:Sl Z5) (h:Sl.sz Z5.sz s<=1048576):Gw (Z69_q s 600) 0 (Sl.sz Z5.sz s) s.l.length:=by
 have hi:Sl.sz Z5.sz s=1+(s.l.map Z5.sz).sum:=rfl;obtain⟨r,e,h1,h2,h3⟩:=inputs_loop_g s.l 0 (fun x hx=>by have:=Sl.mem_le (f:=Z5.sz) hx; omega) (by omega) (by omega);unfold Z69_q; rw [e]; exact⟨r,rfl,h1,by omega,h3⟩
theorem fields_g:∀(l:List Z4) (s:Int),(∀x∈l,x.sz<=1048576)->0<=s->s+(l.map Z4.sz).sum<=1073741824->Gw (Z60_q41 600 l s) s (l.map Z4.sz).sum (l.map fw).sum
 | [],s,_,_,_=>Gw.none _ _
 | a::r,s,hx,h0,h=>by
  simp only [List.map_cons,List.sum_cons] at h ⊢;have hd:=a.sz_def;have hp:=Bs.sz_pos a.FName;have hw:=TRef.wraps_le a.FType;have hxa:=hx a (by simp);have hfw:fw a=1+a.FArgs.l.length:=rfl;rw [Z60_q41];by_cases hs:s<=600
  ·rw [dT hs];simp only [cond_true,Ab.on];refine Gw.bind (a:=1) (b:=a.FType.FWraps.l.length+Sl.sz Z5.sz a.FArgs+Sl.sz TDir.sz a.FDirs+(r.map Z4.sz).sum) (w1:=1) (w2:=a.FArgs.l.length+(r.map fw).sum) (Gw.add (by omega) (by omega)) (by omega) (by omega) fun x h1 h2=>?_;refine Gw.bind (a:=a.FType.FWraps.l.length) (b:=Sl.sz Z5.sz a.FArgs+Sl.sz TDir.sz a.FDirs+(r.map Z4.sz).sum) (w1:=0) (w2:=a.FArgs.l.length+(r.map fw).sum) (Gw.add (by omega) (by omega)) (by omega) (by omega) fun y h3 h4=>?_
   refine Gw.two (b:=Sl.sz TDir.sz a.FDirs+(r.map Z4.sz).sum) (w2:=(r.map fw).sum) (inputs_g a.FArgs (by omega)) (by omega) (by omega) (by omega) fun z h5 h6=>?_;exact Gw.two (b:=(r.map Z4.sz).sum) (w2:=(r.map fw).sum) (dirs_w 600 a.FDirs (by omega)).w (by omega) (by omega) (by omega) fun q h7 h8=>fields_g r q (fun z hz=>hx z (by simp [hz])) (by omega) (by omega)
  ·rw [dF hs]; exact Gw.stop _ _ hs
theorem members_g:∀(l:List Z6) (s:Int),(∀x∈l,x.sz<=1048576)->0<=s->s+(l.map Z6.sz).sum<=1073741824->Gw (Z60_q28 600 l s) s (l.map Z6.sz).sum l.length
 | [],s,_,_,_=>Gw.none _ _
 | a::r,s,hx,h0,h=>by
  simp only [List.map_cons,List.sum_cons] at h ⊢;have hd:=a.sz_def;have hp:=Bs.sz_pos a.FName;have hxa:=hx a (by simp);rw [Z60_q28];by_cases hs:s<=600
  ·rw [dT hs];simp only [cond_true,Ab.on];refine Gw.bind (a:=1) (b:=Sl.sz TDir.sz a.FDirs+(r.map Z6.sz).sum) (w1:=1) (w2:=r.length) (Gw.add (by omega) (by omega)) (by omega) (by simp; omega) fun x h1 h2=>?_;exact Gw.two (b:=(r.map Z6.sz).sum) (w2:=r.length) (dirs_w 600 a.FDirs (by omega)).w (by omega) (by omega) (by omega) fun q h7 h8=>members_g r q (fun z hz=>hx z (by simp [hz])) (by omega) (by omega)
  ·rw [dF hs]; exact Gw.stop _ _ hs
theorem defs_g:∀(l:List TDef) (s:Int),(∀x∈l,x.sz<=1048576)->0<=s->s+(l.map TDef.sz).sum<=1073741824->Gw (Z60_q8 600 l s) s (l.map TDef.sz).sum (l.map tw).sum
 | [],s,_,_,_=>Gw.none _ _
 | a::r,s,hx,h0,h=>by
  simp only [List.map_cons,List.sum_cons] at h ⊢;have hd:=a.sz_def;have hp:=Bs.sz_pos a.FName;have h1:=Sl.len_le (f:=Bs.sz) a.FImplements (fun x=>Bs.sz_pos x);have hf:Sl.sz Z4.sz a.FFields=1+(a.FFields.l.map Z4.sz).sum:=rfl;have hm:Sl.sz Z6.sz a.FMembers=1+(a.FMembers.l.map Z6.sz).sum:=rfl;have hxa:=hx a (by simp);have htw:tw a=(a.FFields.l.map fw).sum+a.FMembers.l.length+a.FInputs.l.length+a.FImplements.l.length:=rfl
  rw [Z60_q8];by_cases hs:s<=600
  ·rw [dT hs];simp only [cond_true,Ab.on];refine Gw.bind (a:=a.FImplements.l.length) (b:=Sl.sz TDir.sz a.FDirs+Sl.sz Z5.sz a.FInputs+(a.FFields.l.map Z4.sz).sum+(a.FMembers.l.map Z6.sz).sum+(r.map TDef.sz).sum) (w1:=a.FImplements.l.length) (w2:=a.FInputs.l.length+(a.FFields.l.map fw).sum+a.FMembers.l.length+(r.map tw).sum) (Gw.add (by omega) (by omega)) (by omega) (by omega) fun x h1 h2=>?_
   refine Gw.two (b:=Sl.sz Z5.sz a.FInputs+(a.FFields.l.map Z4.sz).sum+(a.FMembers.l.map Z6.sz).sum+(r.map TDef.sz).sum) (w2:=a.FInputs.l.length+(a.FFields.l.map fw).sum+a.FMembers.l.length+(r.map tw).sum) (dirs_w 600 a.FDirs (by omega)).w (by omega) (by omega) (by omega) fun y h3 h4=>?_;refine Gw.two (b:=(a.FFields.l.map Z4.sz).sum+(a.FMembers.l.map Z6.sz).sum+(r.map TDef.sz).sum) (w2:=(a.FFields.l.map fw).sum+a.FMembers.l.length+(r.map tw).sum) (inputs_g a.FInputs (by omega)) (by omega) (by omega) (by omega) fun z h5 h6=>?_
   refine Gw.bind (b:=(a.FMembers.l.map Z6.sz).sum+(r.map TDef.sz).sum) (w2:=a.FMembers.l.length+(r.map tw).sum) (fields_g a.FFields.l z (fun x hx=>by have:=Sl.mem_le (f:=Z4.sz) hx; omega) (by omega) (by omega)) (by omega) (by omega) fun p h7 h8=>?_;exact Gw.bind (b:=(r.map TDef.sz).sum) (w2:=(r.map tw).sum) (members_g a.FMembers.l p (fun x hx=>by have:=Sl.mem_le (f:=Z6.sz) hx; omega) (by omega) (by omega)) (by omega) rfl fun q h9 h10=>defs_g r q (fun z hz=>hx z (by simp [hz])) (by omega) (by omega)
  ·rw [dF hs]; exact Gw.stop _ _ hs
theorem dw_eq (l:List TDef):dw l=l.length+(l.map tw).sum:=by
 unfold dw;induction l with
 | nil=>rfl
 | cons a r ih=>simp only [List.map_cons,List.sum_cons,List.length_cons,ih]; omega
theorem doc_g (d:TDoc) (h:d.sz<=1048576):∃r,Z60_q d 600=some r/\(r<=600->dw d.FDefs.l<=600):=by
 have hd:=d.sz_def;have hi:Sl.sz TDef.sz d.FDefs=1+(d.FDefs.l.map TDef.sz).sum:=rfl;have hl:=Sl.len_le (f:=TDef.sz) d.FDefs (fun x=>x.pos);obtain⟨r,e,h1,h2,h3⟩:=defs_g d.FDefs.l (d.FDefs.l.length:Int) (fun x hx=>by have:=TDoc.def_le hx; omega) (by omega) (by omega);unfold Z60_q; rw [e]; exact⟨r,rfl,fun hr=>by have:=h3 hr; rw [dw_eq]; omega⟩
end Go.Proofs

namespace Go.Proofs
open Go Go.Ab
def Pf (o:Option (Sl Z3)) (s:List Z3) (P:Prop):Prop:=∀r,o=some r->(s≠[]->r.l≠[])/\(r.l=[]->P)
theorem Pf.pure {u:Sl Z3}{P:Prop}(h:P):Pf (some u) u.l P:=fun r e=>by cases e; exact⟨fun h=>h,fun _=>h⟩
theorem Pf.imp {o:Option (Sl Z3)}{s:List Z3}{P Q:Prop}(h:Pf o s P) (hi:P->Q):Pf o s Q:=fun r e=>⟨(h r e).1,fun h2=>hi ((h r e).2 h2)⟩
theorem Pf.none (s:List Z3) (P:Prop):Pf Option.none s P:=fun r e=>(by cases e)
theorem Pf.bind {o:Option (Sl Z3)}{f:Sl Z3->Option (Sl Z3)}{s:List Z3}{P Q:Prop}(h:Pf o s P) (hf:∀u:Sl Z3,Pf (f u) u.l Q):Pf (o.bind f) s (P/\Q):=fun r e=>by
 cases ho:o with
 | none=>rw [ho] at e; cases e
 | some u =>
  rw [ho] at e;have h1:=h u ho;have h2:=hf u r e;refine⟨fun hs=>h2.1 (h1.1 hs),fun hr=>⟨h1.2 ?_,h2.2 hr⟩⟩;exact Classical.byContradiction fun hc=>h2.1 hc hr
theorem Pf.skip {α:Type}{o:Option α}{f:α->Option (Sl Z3)}{s:List Z3}{Q:Prop}(hf:∀u,o=some u->Pf (f u) s Q):Pf (o.bind f) s Q:=fun r e=>by
 cases ho:o with
 | none=>rw [ho] at e; cases e
 | some u=>rw [ho] at e; exact hf u ho r e
theorem Pf.guard {α:Type}{c:Bool}{o:Option α}{d:α}{f:α->Option (Sl Z3)}{s:List Z3}{Q:Prop}(hf:∀u,(c=true->o=some u)->Pf (f u) s Q):Pf (guardO c o d f) s Q:=by
 cases c
 ·exact hf d fun h=>(by cases h)
 ·intro r e;cases ho:o with
  | none=>rw [ho] at e; cases e
  | some u=>rw [ho] at e; exact hf u (fun _=>ho) r e
theorem app_l {α:Type}{z:Nat}{s r u:Sl α}(h:appC z s r=some u):u.l=s.l++r.l:=by
 unfold appC at h
 split at h
 ·cases h; rfl
 ·cases h
theorem Pf.add (u:Sl Z3) (b:Bool) (x:Z3) (P:Prop):Pf (appC 24 u ⟨b,[x]⟩) u.l P:=fun r e=>by
 have:=app_l e;rw [this];exact⟨fun _=>by simp,fun h=>by simp at h⟩
theorem Pf.id {o:Option (Sl Z3)}{s:List Z3}{P:Prop}(h:Pf o s P):Pf (o.bind fun x=>some x) s P:=fun r e=>by
 cases ho:o with
 | none=>rw [ho] at e; cases e
 | some u=>rw [ho] at e; cases e; exact h _ ho
theorem Pf.app {o:Option (Sl Z3)}{P:Prop}(s:Sl Z3) (h:Pf o [] P):Pf (o.bind fun x=>appC 24 s x) s.l P:=fun r e=>by
 cases ho:o with
 | none=>rw [ho] at e; cases e
 | some u =>
  rw [ho] at e;have h1:=app_l e;rw [h1];exact⟨fun hs=>by simp [hs],fun h2=>(h u ho).2 (List.append_eq_nil_iff.1 h2).2⟩
theorem Pf.appB {o:Option (Sl Z3)}{k:Sl Z3->Option (Sl Z3)}{P Q:Prop}(s:Sl Z3) (h:Pf o [] P) (hk:∀u:Sl Z3,Pf (k u) u.l Q):Pf (o.bind fun x=>(appC 24 s x).bind k) s.l (P/\Q):=by
 have:=(Pf.app s h).bind hk
 rwa [Option.bind_assoc] at this
def Gn {α:Type}(key:α->Bs) (l:List α) (j:Nat):Prop:=∀x,l[j]?=some x->∀m y,m<j->l[m]?=some y->key y≠key x
theorem dst_of {α:Type}{key:α->Bs}{l:List α}(h:∀j,Gn key l j):Dst key l:=by
 unfold Dst;rw [List.pairwise_iff_getElem];intro i j hi hj hij;exact h j _ (List.getElem?_eq_getElem hj) i _ hij (List.getElem?_eq_getElem hi)
theorem gn_any {α:Type}{key:α->Bs}{l:List α}{j:Nat}(h:∀x,l[j]?=some x->((l.take j).any fun y=>key y==key x)=false):Gn key l j:=fun x hx m y hm hy e=>by
 have h1:=h x hx;rw [List.any_eq_false] at h1;have h2:y∈l.take j:=by
  have:(l.take j)[m]?=some y:=by rw [List.getElem?_take_of_lt hm]; exact hy
  exact List.mem_of_getElem? this
 exact h1 y h2 (beq_iff_eq.mpr e)
theorem names_pf (n:Bs) (bad before:Bool) (a:Bs):Pf (Z98_q n bad before a) [] (before=false):=by
 unfold Z98_q;refine Pf.guard fun u _=>?_;refine(Pf.bind (P:=True) (Q:=before=false) ?_ fun u=>?_).imp And.right
 ·cases (bad||!u)
  ·exact Pf.pure (u:=(Sl.nil:Sl Z3)) trivial
  ·exact(Pf.add (Sl.nil:Sl Z3) _ _ _).id
 ·refine Pf.id ?_;cases before
  ·exact Pf.pure rfl
  ·exact(Pf.add _ _ _ _).id
theorem input6_any (n:Bs):∀l:List Z5,(match Z85_q6 n l with|.inl _=>false|.inr e=>e.2)=l.any fun y=>y.FName==n
 | []=>rfl
 | a::r=>by
  rw [Z85_q6,List.any_cons];simp only [Ab.on];cases a.FName==n
  ·exact input6_any n r
  ·rfl
theorem input_any (s:Sl Z5) (n:Bs):(Z85_q s n).2=s.l.any fun y=>y.FName==n:=by
 rw [<- input6_any];unfold Z85_q;simp only [Ab.on];cases Z85_q6 n s.l<;>rfl
theorem field6_any (n:Bs):∀l:List Z4,(match Z83_q6 n l with|.inl _=>false|.inr e=>e.2)=l.any fun y=>y.FName==n
 | []=>rfl
 | a::r=>by
  rw [Z83_q6,List.any_cons];simp only [Ab.on];cases a.FName==n
  ·exact field6_any n r
  ·rfl
theorem field_any (t:TDef) (n:Bs):(Z83_q t n).2=t.FFields.l.any fun y=>y.FName==n:=by
 rw [<- field6_any];unfold Z83_q;simp only [Ab.on];cases Z83_q6 n t.FFields.l<;>rfl
theorem drop_hd {α:Type}{l r:List α}{i:Nat}{x:α}(h:l.drop i=x::r):l[i]?=some x/\l.drop (i+1)=r:=by
 have hi:i<l.length:=by
  rcases Nat.lt_or_ge i l.length with c|c
  ·exact c
  ·rw [List.drop_of_length_le c] at h; cases h
 rw [List.drop_eq_getElem_cons hi] at h;simp only [List.cons.injEq] at h;exact⟨by rw [List.getElem?_eq_getElem hi,h.1],h.2⟩
theorem drop_nil_get {α:Type}{l:List α}{i j:Nat}(h:l.drop i=[]) (hj:i<=j):l[j]?=none:=List.getElem?_eq_none (by have:=congrArg List.length h; simp at this; omega)
theorem inputs_pf (d:TDoc) (a1:Sl Z5) (p q:Bs):∀(l:List Z5) (i:Nat) (s:Sl Z3),a1.l.drop i=l->Pf (Z95_q7 d a1 p q l i s) s.l (∀j,i<=j->Gn Z5.FName a1.l j)
 | [],i,s,h=>by
  rw [Z95_q7];exact Pf.pure fun j hj x hx=>by rw [drop_nil_get h hj] at hx; cases hx
 | a::r,i,s,h=>by
  obtain⟨h1,h2⟩:=drop_hd h;rw [Z95_q7];simp only [Ab.on];refine Pf.skip fun t _=>Pf.skip fun t _=>?_;refine(Pf.appB (Q:=∀j,i+1<=j->Gn Z5.FName a1.l j) s (names_pf _ _ _ _) fun u=>?_).imp fun⟨z1,z2⟩ j hj=>?_
  ·refine(Pf.bind (P:=True) ?_ fun u=>inputs_pf d a1 p q r (i+1) u h2).imp And.right;cases Z96_q d a.FType.FName
   ·exact(Pf.add _ _ _ _).id
   ·cases Z86_q d a.FType.FName
    ·exact(Pf.add _ _ _ _).id
    ·exact Pf.pure trivial
  ·rcases Nat.lt_or_ge i j with c|c
   ·exact z2 j c
   ·obtain rfl:j=i:=by omega
    rw [input_any] at z1;exact gn_any fun x hx=>by rw [h1] at hx; cases hx; exact z1
theorem inputs_dst (d:TDoc) (a1:Sl Z5) (p q:Bs):Pf (Z95_q d a1 p q) [] (Dst Z5.FName a1.l):=by
 unfold Z95_q;exact((inputs_pf d a1 p q a1.l 0 Sl.nil rfl).imp fun h=>dst_of fun j=>h j (Nat.zero_le j)).id
theorem fields_pf (d:TDoc) (t:TDef):∀(l:List Z4) (i:Nat) (s:Sl Z3),t.FFields.l.drop i=l->Pf (Z93_q7 d t l i s) s.l (∀j,i<=j->Gn Z4.FName t.FFields.l j/\∀x,t.FFields.l[j]?=some x->Dst Z5.FName x.FArgs.l)
 | [],i,s,h=>by
  rw [Z93_q7];exact Pf.pure fun j hj=>⟨fun x hx=>(by rw [drop_nil_get h hj] at hx; cases hx),fun x hx=>(by rw [drop_nil_get h hj] at hx; cases hx)⟩
 | a::r,i,s,h=>by
  obtain⟨h1,h2⟩:=drop_hd h;rw [Z93_q7];simp only [Ab.on];refine Pf.skip fun t1 _=>Pf.skip fun t2 _=>?_;refine(Pf.appB (Q:=Dst Z5.FName a.FArgs.l/\∀j,i+1<=j->Gn Z4.FName t.FFields.l j/\∀x,t.FFields.l[j]?=some x->Dst Z5.FName x.FArgs.l) s (names_pf _ _ _ _) fun u=>?_).imp fun⟨z1,z2,z3⟩ j hj=>?_
  ·refine(Pf.bind (P:=True) ?_ fun u=>?_).imp And.right
   ·cases Z96_q d a.FType.FName
    ·exact(Pf.add _ _ _ _).id
    ·rw [Bool.not_true,cond_false];generalize (((!Z88_q a.FType.FName)&&(Z84_q d a.FType.FName).2)&&(decide ((Z84_q d a.FType.FName).1.FKind=(5:Int))))=c;cases c
     ·exact Pf.pure trivial
     ·exact(Pf.add _ _ _ _).id
   ·refine Pf.skip fun t3 _=>?_;exact Pf.appB u (inputs_dst _ _ _ _) fun u=>fields_pf d t r (i+1) u h2
  ·rcases Nat.lt_or_ge i j with c|c
   ·exact z3 j c
   ·obtain rfl:j=i:=by omega
    rw [field_any] at z1;exact⟨gn_any fun x hx=>(by rw [h1] at hx; cases hx; exact z1),fun x hx=>(by rw [h1] at hx; cases hx; exact z2)⟩
theorem fields_dst (d:TDoc) (t:TDef):Pf (Z93_q d t) [] (Dst Z4.FName t.FFields.l/\∀x∈t.FFields.l,Dst Z5.FName x.FArgs.l):=by
 unfold Z93_q;refine((fields_pf d t t.FFields.l 0 Sl.nil rfl).imp fun h=>⟨dst_of fun j=>(h j (Nat.zero_le j)).1,fun x hx=>?_⟩).id;obtain⟨j,hj,rfl⟩:=List.mem_iff_getElem.1 hx;exact(h j (Nat.zero_le j)).2 _ (List.getElem?_eq_getElem hj)
theorem addC_l {a b c:Int}(h:addC a b=some c):c=a+b:=by
 unfold addC at h
 split at h
 ·cases h; rfl
 ·cases h
theorem j13_pf (d:TDoc) (t:TDef) (s:Sl Z3):Pf (Z100_j13 d t s) s.l True:=by
 unfold Z100_j13 Z100_j15;refine Pf.skip fun c _=>?_;cases c
 ·exact Pf.pure trivial
 ·exact(Pf.add _ _ _ _).id
theorem j10_pf (d:TDoc) (t:TDef) (s:Sl Z3):Pf (Z100_j10 d t s) s.l True:=by
 unfold Z100_j10;generalize (((((((t.FName==([81,117,101,114,121]:Bs)))||((t.FName==([77,117,116,97,116,105,111,110]:Bs))))||((t.FName==([83,117,98,115,99,114,105,112,116,105,111,110]:Bs))))&&(!decide (t.FKind=(1:Int))))||(decide (t.FKind<(1:Int))))||(decide ((5:Int)<t.FKind)))=c;cases c
 ·exact j13_pf d t s
 ·exact(Pf.bind (P:=True) (Pf.add _ _ _ _) fun u=>j13_pf d t u).imp fun _=>trivial
theorem j6_pf (d:TDoc) (t:TDef) (b:Bool):Pf (Z100_j6 d t b) [] (b=false):=by
 unfold Z100_j6;rw [Z98_eq];refine(Pf.bind (Q:=True) (names_pf _ _ _ _) fun u=>?_).imp And.left;refine Pf.skip fun c _=>?_;cases c
 ·exact j10_pf d t u
 ·exact(Pf.bind (P:=True) (Pf.add _ _ _ _) fun u=>j10_pf d t u).imp fun _=>trivial
theorem l30_pf (d:TDoc) (t:TDef) (i:Nat):∀(n k:Nat) (b:Bool),Pf (Z100_l30 d (i:Int) t n b (k:Int)) [] (b=false/\∀m y,k<=m->m<i->d.FDefs.l[m]?=some y->y.FName≠t.FName)
 | 0,k,b=>by rw [Z100_l30]; exact Pf.none _ _
 | n+1,k,b=>by
  rw [Z100_l30];by_cases hk:k<i
  ·rw [dT (by omega:((k:Nat):Int)<((i:Nat):Int)),cond_true];refine Pf.guard fun x hx=>Pf.skip fun k' hk'=>?_;have e:k'=((k+1:Nat):Int):=by rw [addC_l hk']; omega
   rw [e];refine(l30_pf d t i n (k+1) (b||x.FName==t.FName)).imp fun⟨h1,h2⟩=>?_;rw [Bool.or_eq_false_iff] at h1;refine⟨h1.1,fun m y m1 m2 hy=>?_⟩;rcases Nat.lt_or_ge k m with c|c
   ·exact h2 m y c m2 hy
   ·obtain rfl:m=k:=by omega
    have hx2:=hx (by rw [h1.1]; rfl);unfold idxC at hx2;rw [if_pos (by omega),Int.toNat_natCast,hy] at hx2;cases hx2;exact beq_eq_false_iff_ne.1 h1.2
  ·rw [dF (by omega:¬((k:Nat):Int)<((i:Nat):Int)),cond_false];exact(j6_pf d t b).imp fun h=>⟨h,fun m y m1 m2=>by omega⟩
theorem whole_pf (d:TDoc) (i:Nat):Pf (Z100_q d (i:Int)) [] (Gn TDef.FName d.FDefs.l i):=by
 unfold Z100_q Z100;refine Pf.skip fun x hx=>Pf.skip fun b _=>?_;refine(l30_pf d x i F0 0 b).imp fun⟨_,h2⟩=>?_;intro z hz m y hm hy;unfold idxC at hx;rw [if_pos (by omega),Int.toNat_natCast,hz] at hx;cases hx;exact h2 m y (Nat.zero_le m) hm hy
def PartD (t:TDef):Prop:=(t.FKind=1\/t.FKind=2->Dst Z4.FName t.FFields.l/\∀x∈t.FFields.l,Dst Z5.FName x.FArgs.l)/\(t.FKind=5->Dst Z5.FName t.FInputs.l)
theorem check_pf (d:TDoc):∀(l:List TDef) (i:Nat) (s:Sl Z3),d.FDefs.l.drop i=l->Pf (Z82_q14 d l i s) s.l (∀j,i<=j->Gn TDef.FName d.FDefs.l j/\∀x,d.FDefs.l[j]?=some x->PartD x)
 | [],i,s,h=>by
  rw [Z82_q14];exact Pf.pure fun j hj=>⟨fun x hx=>(by rw [drop_nil_get h hj] at hx; cases hx),fun x hx=>(by rw [drop_nil_get h hj] at hx; cases hx)⟩
 | a::r,i,s,h=>by
  obtain⟨h1,h2⟩:=drop_hd h;rw [Z82_q14];simp only [Ab.on];refine(Pf.appB (Q:=PartD a/\∀j,i+1<=j->Gn TDef.FName d.FDefs.l j/\∀x,d.FDefs.l[j]?=some x->PartD x) s (whole_pf d i) fun u=>?_).imp fun⟨z1,z2,z3⟩ j hj=>?_
  ·refine Pf.bind ?_ fun u=>check_pf d r (i+1) u h2;have e12:(bif (decide (a.FKind=(1:Int))) then((decide (a.FKind=(1:Int)))) else((decide (a.FKind=(2:Int)))))=decide (a.FKind=1\/a.FKind=2):=by
    by_cases c1:a.FKind=1<;>by_cases c2:a.FKind=2<;>simp [c1,c2]
   rw [e12];by_cases c12:a.FKind=1\/a.FKind=2
   ·rw [dT c12,cond_true];have:=(Pf.app u (fields_dst d a)).id;rw [Option.bind_assoc] at this;exact this.imp fun h=>⟨fun _=>h,fun h5=>by omega⟩
   ·rw [dF c12,cond_false];by_cases c4:a.FKind=4
    ·rw [dT c4,cond_true];have:=(Pf.app (P:=True) u (o:=Z97_q a) fun r _=>⟨fun h=>absurd rfl h,fun _=>trivial⟩).id;rw [Option.bind_assoc] at this;exact this.imp fun _=>⟨fun h=>absurd h c12,fun h5=>by omega⟩
    ·rw [dF c4,cond_false];by_cases c5:a.FKind=5
     ·rw [dT c5,cond_true];refine Pf.skip fun t _=>?_;have:=(Pf.app u (inputs_dst d a.FInputs t [])).id;rw [Option.bind_assoc] at this;exact this.imp fun h=>⟨fun h=>absurd h c12,fun _=>h⟩
     ·rw [dF c5,cond_false];exact Pf.pure ⟨fun h=>absurd h c12,fun h=>absurd h c5⟩
  ·rcases Nat.lt_or_ge i j with c|c
   ·exact z3 j c
   ·obtain rfl:j=i:=by omega
    exact⟨z1,fun x hx=>by rw [h1] at hx; cases hx; exact z2⟩
theorem check_dst {d:TDoc}{b:Bool}{r:Sl Z3}(h:Z82_q d b=some r) (hr:r.l=[]):Dst TDef.FName d.FDefs.l/\∀t∈d.FDefs.l,PartD t:=by
 have h2:Pf (Z82_q d b) [] (∀j,0<=j->Gn TDef.FName d.FDefs.l j/\∀x,d.FDefs.l[j]?=some x->PartD x):=by
  unfold Z82_q;simp only [Ab.on];refine(Pf.bind (Q:=True) (check_pf d d.FDefs.l 0 Sl.nil rfl) fun u=>?_).imp And.left;refine Pf.id ?_;generalize (b&&(!(Z84_q d ([81,117,101,114,121]:Bs)).2))=c;cases c
  ·exact Pf.pure trivial
  ·exact(Pf.add _ _ _ _).id
 have h3:=(h2 r h).2 hr;refine⟨dst_of fun j=>(h3 j (Nat.zero_le j)).1,fun t ht=>?_⟩;obtain⟨j,hj,rfl⟩:=List.mem_iff_getElem.1 ht;exact(h3 j (Nat.zero_le j)).2 _ (List.getElem?_eq_getElem hj)
end Go.Proofs

namespace Go.Proofs
open Go Go.Ab
theorem condE {α:Type}{c:Bool}{a b:Option α}{z:α}(h:cond c a b=some z):(c=true/\a=some z)\/(c=false/\b=some z):=by cases c; exact .inr ⟨rfl,h⟩; exact .inl ⟨rfl,h⟩
theorem guardE {α β:Type}{c:Bool}{o:Option α}{d:α}{k:α->Option β}{z:β}(h:guardO c o d k=some z):(c=true/\∃v,o=some v/\k v=some z)\/(c=false/\k d=some z):=by
  cases c
  · exact .inr ⟨rfl,h⟩
  · cases ho:o with
    | none=>rw [ho] at h; cases h
    | some v=>rw [ho] at h; exact .inl ⟨rfl,v,rfl,h⟩
theorem defs34 (l:List Bs) (y:Bool) (h:Z62_q34 l=Sum.inr y):y=false:=by
  induction l with
  | nil=>cases h
  | cons a r ih =>
    rw [Z62_q34] at h;simp only [Ab.on] at h
    revert h
    cases (!Z34_q a) with
    | true=>intro h; exact(Sum.inr.inj h).symm
    | false=>exact ih
theorem docs_right (l:List TDef) (z:Unit ⊕ Bool) (h:Z59_q10 l=some z):(z=Sum.inl ()/\∀x∈l,Z62_q x=some true)\/z=Sum.inr false:=by
  induction l generalizing z with
  | nil=>rw [Z59_q10] at h; exact .inl ⟨(oJ h).symm,fun a ha=>by cases ha⟩
  | cons a r ih =>
    rw [Z59_q10] at h;simp only [Ab.on] at h;obtain⟨x,g,h⟩:=bindO_some h;cases x with
    | false=>simp at h; exact .inr h.symm
    | true =>
      simp only [Bool.not_true,cond_false] at h;rcases ih z h with ⟨h1,h2⟩|h1
      · exact .inl ⟨h1,fun y hy=>by rcases List.mem_cons.1 hy with rfl|hy; exact g; exact h2 y hy⟩
      · exact .inr h1
theorem doc_right {d:TDoc}(h:Z59_q d=some true):∀x∈d.FDefs.l,Z62_q x=some true:=by
  unfold Z59_q at h;rcases condE h with ⟨_,h⟩|⟨_,h⟩
  · cases h
  · obtain⟨z,g,h⟩:=bindO_some h
    rcases docs_right _ _ g with ⟨_,h1⟩|rfl
    · exact h1
    · cases h
theorem def_parts {t:TDef}(h:Z62_q t=some true):((t.FKind=1\/t.FKind=2)\/t.FFields.l=[])/\(t.FKind=5\/t.FInputs.l=[]):=by
  unfold Z62_q at h;simp only [Ab.on] at h;rcases guardE h with ⟨_,x5,_,h⟩|⟨_,h⟩<;>rcases condE h with ⟨_,h⟩|⟨_,h⟩;all_goals first
    | (cases h; done)
    | (cases e:Z62_q34 t.FImplements.l with
       | inr y=>rw [e] at h; have:=defs34 _ _ e; subst this; cases h
       | inl _ =>
         rw [e] at h;simp only at h;rcases condE h with ⟨k1,h⟩|⟨_,h⟩
         · obtain⟨x15,_,h⟩:=bindO_some h
           simp at h k1;exact⟨.inl (.inl k1),.inr h.2⟩
         · rcases condE h with ⟨k1,h⟩|⟨_,h⟩
           · rcases guardE h with ⟨_,x,_,h⟩|⟨_,h⟩
             · simp at h k1; exact⟨.inl (.inr k1),.inr h.2⟩
             · simp at h
           · rcases condE h with ⟨_,h⟩|⟨_,h⟩
             · rcases guardE h with ⟨_,x,_,h⟩|⟨_,h⟩
               · simp at h; exact⟨.inr h.1.1.2,.inr h.2⟩
               · simp at h
             · rcases condE h with ⟨_,h⟩|⟨_,h⟩
               · rcases guardE h with ⟨_,x,_,h⟩|⟨_,h⟩
                 · simp at h; exact⟨.inr h.1.1.2,.inr h.2⟩
                 · simp at h
               · rcases condE h with ⟨k1,h⟩|⟨_,h⟩
                 · rcases guardE h with ⟨_,x,ex,h⟩|⟨_,h⟩
                   · simp at h k1; exact⟨.inr h.1.1.1.2,.inl k1⟩
                   · simp at h
                 · cases h)
theorem rok {t:TRef}(h:t.sz<=1048576):ROk t:=by
  have h1:=t.sz_def;have h2:=TRef.wraps_le t;have h3:Bs.sz t.FName=t.FName.length+1:=rfl;exact⟨by omega,by omega⟩
theorem iok {x:Z5}(hw:x.wf) (h:x.sz<=1048576):IOk x:=by
  have h1:=x.sz_def;exact⟨rok (by omega),by omega,hw.2.2.2.1⟩
theorem fok {x:Z4}(hw:x.wf) (h:x.sz<=1048576):FOk x:=by
  have h1:=x.sz_def;exact⟨rok (by omega),fun y hy=>iok (hw.2.1.2.2 y hy) (by have:=Sl.mem_le (f:=Z5.sz) hy; omega)⟩
theorem tok {t:TDef}(hw:t.wf) (h:t.sz<=1048576):TOk t:=by
  have h1:=t.sz_def;have h2:=Sl.len_le (f:=Bs.sz) t.FImplements (fun x=>Bs.sz_pos x);have h3:=Sl.len_le (f:=Z6.sz) t.FMembers (fun x=>x.pos);exact⟨fun x hx=>fok (hw.2.2.2.2.1.2.2 x hx) (by have:=Sl.mem_le (f:=Z4.sz) hx; omega),fun x hx=>iok (hw.2.2.2.2.2.2.1.2.2 x hx) (by have:=Sl.mem_le (f:=Z5.sz) hx; omega),by omega,⟨hw.2.2.1.1,by omega⟩⟩
end Go.Proofs

namespace Go.Proofs
open Go Go.Ab
structure DocOk (d:TDoc):Prop where
 t:∀t∈d.FDefs.l,TOk t
 n:Dst TDef.FName d.FDefs.l
 e:∀t∈d.FDefs.l,DDst t
 w:dw d.FDefs.l<=600
 r:∀t∈d.FDefs.l,Z62_q t=some true
theorem tw_le {A:List TDef}{t:TDef}(h:t∈A):1+tw t<=dw A:=by
 unfold dw;induction A with
 | nil=>cases h
 | cons a r ih =>
  simp only [List.map_cons,List.sum_cons];rcases List.mem_cons.1 h with rfl|h
  ·omega
  ·have:=ih h; omega
theorem fw_le {A:List Z4}{f:Z4}(h:f∈A):f.FArgs.l.length+1<=(A.map fw).sum:=by
 induction A with
 | nil=>cases h
 | cons a r ih =>
  simp only [List.map_cons,List.sum_cons];rcases List.mem_cons.1 h with rfl|h
  ·unfold fw; omega
  ·have:=ih h; omega
theorem fw_len (A:List Z4):A.length<=(A.map fw).sum:=by
 induction A with
 | nil=>simp
 | cons a r ih=>simp only [List.map_cons,List.sum_cons,List.length_cons]; unfold fw at ih ⊢; omega
theorem expected_is {d:TDoc}(hw:d.wf) (hd:d.sz<=1048576):∃b,Z32_q d=some b/\(b=true->DocOk d):=by
 obtain⟨x3,e3,w3⟩:=doc_g d hd;obtain⟨x4,e4⟩:=Z59_ok d hd;obtain⟨x5,e5,-⟩:=check_tl hd false;have hlen:=Sl.len_le (f:=TDef.sz) d.FDefs (fun x=>x.pos);have hd2:=d.sz_def;unfold Z32_q;rw [e3,oB,e4,e5];by_cases hx:x3<=600
 ·have hW:=w3 hx;obtain⟨x6,e6,-⟩:=faces_tl hd ⟨by have:=dw_eq d.FDefs.l; omega,fun x hx=>by
   have h1:=tw_le hx;have h2:=fw_len x.FFields.l;unfold tw at h1;exact⟨⟨by omega,by omega,by omega,by omega,fun f hf=>by have:=fw_le hf; omega⟩,by omega⟩⟩
  rw [e6,dT hx];simp only [Bool.true_and];have main:∀c:Bool,(c=true->(d.FDefs.l.length=0\/x4=true))->∃b,(guardO c (some x5) (Sl.nil:Sl Z3) fun x5=>guardO (c&&decide (((x5.l.length:Nat):Int)=(0:Int))) (some x6) (Sl.nil:Sl Z3) fun x6=>some ((c&&decide (((x5.l.length:Nat):Int)=(0:Int)))&&decide (((x6.l.length:Nat):Int)=(0:Int))))=some b/\(b=true->DocOk d):=by
   intro c hc;cases c
   ·exact⟨_,rfl,fun h=>by simp at h⟩
   ·have h5:x5.l.length=0->DocOk d:=fun h5=>by
     obtain⟨c1,c2⟩:=check_dst e5 (List.eq_nil_of_length_eq_zero h5);have hR:∀t∈d.FDefs.l,Z62_q t=some true:=fun t ht=>by
      rcases hc rfl with h|h
      ·rw [List.eq_nil_of_length_eq_zero h] at ht; cases ht
      ·rw [h] at e4; exact doc_right e4 t ht
     refine⟨fun t ht=>tok (hw.1.2.2 t ht) (by have:=TDoc.def_le ht; omega),c1,fun t ht=>?_,hW,hR⟩;have hr:=hR t ht;obtain⟨p1,p2⟩:=c2 t ht;obtain⟨q1,q2⟩:=def_parts hr;refine⟨?_, ?_, ?_⟩
     ·rcases q1 with q|q
      ·exact(p1 q).1
      ·rw [q]; exact List.Pairwise.nil
     ·rcases q1 with q|q
      ·exact(p1 q).2
      ·rw [q]; intro x hx; cases hx
     ·rcases q2 with q|q
      ·exact p2 q
      ·rw [q]; exact List.Pairwise.nil
    simp only [guardO,if_true,oB,Bool.true_and];by_cases h0:x5.l.length=0
    ·rw [dT (by omega:((x5.l.length:Nat):Int)=(0:Int))];exact⟨_,rfl,fun _=>h5 h0⟩
    ·rw [dF (by omega:¬((x5.l.length:Nat):Int)=(0:Int))];exact⟨_,rfl,fun h=>by simp at h⟩
  by_cases h0:d.FDefs.l.length=0
  ·rw [dT (by omega:((d.FDefs.l.length:Nat):Int)=(0:Int))];exact main true fun _=>.inl h0
  ·rw [dF (by omega:¬((d.FDefs.l.length:Nat):Int)=(0:Int))];exact main x4 fun h=>.inr h
 ·rw [dF hx];exact⟨false,rfl,fun h=>(by cases h)⟩
end Go.Proofs

namespace Go.Proofs
open Go Go.Ab
theorem inputs_right (l:List Z5) (z:Unit ⊕ Bool) (h:Z65_q10 l=some z):(z=Sum.inl ()/\∀x∈l,x.FHas=true->Z40_q x.FDefault=some true)\/z=Sum.inr false:=by
  induction l generalizing z with
  | nil=>rw [Z65_q10] at h; exact .inl ⟨(oJ h).symm,fun a ha=>by cases ha⟩
  | cons a r ih =>
    rw [Z65_q10] at h;simp only [Ab.on] at h;have step:∀(x27:Bool),(a.FHas=true->Z40_q a.FDefault=some x27)->∀x28:Bool,(bif ((a.FHas&&((!x27)||(!x28)))||((!a.FHas)&&(!(bif (!(a.FHas&&((!x27)||(!x28)))&&(!a.FHas)) then Z67_q a.FDefault else false)))) then(some (Sum.inr false)) else(Z65_q10 r))=some z ->
        (z=Sum.inl ()/\∀x∈a::r,x.FHas=true->Z40_q x.FDefault=some true)\/z=Sum.inr false:=by
      intro x27 e x28 h;rcases condE h with ⟨_,h⟩|⟨hc,h⟩
      · exact .inr (oJ h).symm
      · rcases ih z h with ⟨h1,h2⟩|h1
        · refine .inl ⟨h1,fun x hx hh=>?_⟩
          rcases List.mem_cons.1 hx with rfl|hx
          · have:=e hh
            rw [hh] at hc;cases x27 with
            | true=>exact this
            | false=>simp at hc
          · exact h2 x hx hh
        · exact .inr h1
    rcases guardE h with ⟨_,x22,_,h⟩|⟨_,h⟩<;>rcases guardE h with ⟨_,x23,_,h⟩|⟨_,h⟩<;>rcases condE h with ⟨_,h⟩|⟨_,h⟩;all_goals first
      | exact .inr (oJ h).symm
      | (rcases guardE h with ⟨_,x27,e27,h⟩|⟨e27,h⟩
         · rcases guardE h with ⟨_,x28,_,h⟩|⟨_,h⟩
           · exact step x27 (fun _=>e27) x28 h
           · exact step x27 (fun _=>e27) false h
         · rcases guardE h with ⟨_,x28,_,h⟩|⟨_,h⟩
           · exact step false (fun hh=>by rw [hh] at e27; cases e27) x28 h
           · exact step false (fun hh=>by rw [hh] at e27; cases e27) false h)
theorem inputsRight_w {s:Sl Z5}(h:Z65_q s=some true):∀x∈s.l,x.FHas=true->Z40_q x.FDefault=some true:=by
  unfold Z65_q at h;rcases condE h with ⟨_,h⟩|⟨_,h⟩
  · cases h
  · obtain⟨z,g,h⟩:=bindO_some h
    rcases inputs_right _ _ g with ⟨_,h1⟩|rfl
    · exact h1
    · cases h
def RtI (x:Z5):Prop:=x.FHas=true->Z40_q x.FDefault=some true
theorem guardT {α β:Type}{o:Option α}{d:α}{k:α->Option β}{z:β}(h:guardO true o d k=some z):∃v,o=some v/\k v=some z:=by
  rcases guardE h with ⟨_,h⟩|⟨hc,_⟩
  · exact h
  · cases hc
theorem fields_right (l:List Z4) (z:Unit ⊕ Bool) (h:Z64_q10 l=some z):(z=Sum.inl ()/\∀x∈l,Z65_q x.FArgs=some true)\/z=Sum.inr false:=by
  induction l generalizing z with
  | nil=>rw [Z64_q10] at h; exact .inl ⟨(oJ h).symm,fun a ha=>by cases ha⟩
  | cons a r ih =>
    rw [Z64_q10] at h;simp only [Ab.on] at h;cases e:Z34_q a.FName with
    | false=>simp [e,guardO] at h; exact .inr h.symm
    | true =>
      simp only [e,Bool.not_true,Bool.not_false,cond_true,Bool.false_or] at h;obtain⟨x21,e21,h⟩:=guardT h;cases x21 with
      | false=>simp [guardO] at h; exact .inr h.symm
      | true =>
        simp only [Bool.not_true,Bool.not_false,cond_true,Bool.false_or] at h;obtain⟨x23,_,h⟩:=guardT h;cases x23 with
        | false=>simp [guardO] at h; exact .inr h.symm
        | true =>
          simp only [Bool.not_true,Bool.not_false,cond_true,Bool.false_or] at h;obtain⟨x25,_,h⟩:=guardT h;cases x25 with
          | false=>simp at h; exact .inr h.symm
          | true =>
            simp only [Bool.not_true,cond_false] at h;rcases ih z h with ⟨h1,h2⟩|h1
            · exact .inl ⟨h1,fun y hy=>by rcases List.mem_cons.1 hy with rfl|hy; exact e21; exact h2 y hy⟩
            · exact .inr h1
theorem inputsRight_n {s:Sl Z5}(h:Z65_q s=some true):s.l.length<=16:=by
  unfold Z65_q at h;rcases condE h with ⟨_,h⟩|⟨h1,_⟩
  · cases h
  · rw [decide_eq_false_iff_not] at h1; omega
theorem fieldsRight_w {s:Sl Z4}(h:Z64_q s=some true):s.l.length<=64/\∀x∈s.l,Z65_q x.FArgs=some true:=by
  unfold Z64_q at h;rcases condE h with ⟨_,h⟩|⟨h1,h⟩
  · cases h
  · obtain⟨z,g,h⟩:=bindO_some h
    rw [Bool.or_eq_false_iff,decide_eq_false_iff_not,decide_eq_false_iff_not] at h1;rcases fields_right _ _ g with ⟨_,h2⟩|rfl
    · exact⟨by omega,h2⟩
    · cases h
theorem membersRight_n {s:Sl Z6}{b:Bool}(h:Z66_q s b=some true):s.l.length<=64:=by
  unfold Z66_q at h;rcases condE h with ⟨_,h⟩|⟨h1,_⟩
  · cases h
  · rw [Bool.or_eq_false_iff,decide_eq_false_iff_not,decide_eq_false_iff_not] at h1; omega
structure Rt (t:TDef):Prop where
  f:t.FFields.l.length<=64
  a:∀x∈t.FFields.l,Z65_q x.FArgs=some true
  i:t.FInputs.l.length<=16
  d:∀y∈t.FInputs.l,RtI y
  m:t.FMembers.l.length<=64
  p:t.FImplements.l.length<=64
  q:t.FInputs.l=[]\/Z65_q t.FInputs=some true
theorem def_rt {t:TDef}(h:Z62_q t=some true):Rt t:=by
  have mk:t.FImplements.l.length<=64->(t.FFields.l=[]\/Z64_q t.FFields=some true)->(t.FInputs.l=[]\/Z65_q t.FInputs=some true)->t.FMembers.l.length<=64->Rt t:=fun h1 h2 h3 h4=>by
    refine⟨?_, ?_, ?_, ?_,h4,h1,h3⟩
    · rcases h2 with e|e
      · rw [e]; exact Nat.zero_le _
      · exact(fieldsRight_w e).1
    · rcases h2 with e|e
      · rw [e]; intro x hx; cases hx
      · exact(fieldsRight_w e).2
    · rcases h3 with e|e
      · rw [e]; exact Nat.zero_le _
      · exact inputsRight_n e
    · rcases h3 with e|e
      · rw [e]; intro x hx; cases hx
      · exact inputsRight_w e
  have z:∀{α:Type}{l:List α},l=[]->l.length<=64:=fun e=>by rw [e]; exact Nat.zero_le _
  unfold Z62_q at h;simp only [Ab.on] at h;rcases guardE h with ⟨_,x5,_,h⟩|⟨_,h⟩<;>rcases condE h with ⟨_,h⟩|⟨hp,h⟩;all_goals first
    | (cases h; done)
    | (have hq:t.FImplements.l.length<=64:=by
         rw [Bool.or_eq_false_iff,decide_eq_false_iff_not] at hp; omega
       cases e:Z62_q34 t.FImplements.l with
       | inr y=>rw [e] at h; have:=defs34 _ _ e; subst this; cases h
       | inl _ =>
         rw [e] at h;simp only at h;rcases condE h with ⟨k1,h⟩|⟨_,h⟩
         · obtain⟨x15,ex,h⟩:=bindO_some h
           simp at h k1;rw [h.1.1] at ex;exact mk hq (.inr ex) (.inl h.2) (z h.1.2)
         · rcases condE h with ⟨k1,h⟩|⟨_,h⟩
           · rcases guardE h with ⟨_,x,ex,h⟩|⟨_,h⟩
             · simp at h k1; rw [h.1.1.2] at ex; exact mk hq (.inr ex) (.inl h.2) (z h.1.2)
             · simp at h
           · rcases condE h with ⟨_,h⟩|⟨_,h⟩
             · rcases guardE h with ⟨_,x,ex,h⟩|⟨_,h⟩
               · simp at h; rw [h.1.2] at ex; exact mk hq (.inl h.1.1.2) (.inl h.2) (membersRight_n ex)
               · simp at h
             · rcases condE h with ⟨_,h⟩|⟨_,h⟩
               · rcases guardE h with ⟨_,x,ex,h⟩|⟨_,h⟩
                 · simp at h; rw [h.1.2] at ex; exact mk hq (.inl h.1.1.2) (.inl h.2) (membersRight_n ex)
                 · simp at h
               · rcases condE h with ⟨k1,h⟩|⟨_,h⟩
                 · rcases guardE h with ⟨_,x,ex,h⟩|⟨_,h⟩
                   · simp at h k1; rw [h.2] at ex; exact mk hq (.inl h.1.1.1.2) (.inr ex) (z h.1.1.2)
                   · simp at h
                 · cases h)
end Go.Proofs

namespace Go.Proofs
open Go Go.Ab
theorem less_irr:∀x:Bs,Op.bytesLess x x=false
 | []=>by simp [Op.bytesLess]
 | a::x=>by rw [Op.bytesLess,less_irr x]; simp
theorem rints (a b:Int):Z44_q a b=0↔a=b:=by
 unfold Z44_q;by_cases h1:a<b
 ·rw [dT h1,cond_true]; exact⟨fun h=>(by cases h),fun h=>by omega⟩
 ·rw [dF h1,cond_false];by_cases h2:b<a
  ·rw [dT h2,cond_true]; exact⟨fun h=>(by cases h),fun h=>by omega⟩
  ·rw [dF h2,cond_false]; exact⟨fun _=>by omega,fun _=>rfl⟩
theorem rstrings (a b:Bs):Z47_q a b=0↔a=b:=by
 unfold Z47_q;cases h1:Op.bytesLess a b
 ·rw [cond_false,Bool.false_or];by_cases h2:a=b
  ·rw [beq_iff_eq.mpr h2]; exact⟨fun _=>h2,fun _=>rfl⟩
  ·rw [show (a==b)=false from beq_eq_false_iff_ne.mpr h2]; exact⟨fun h=>(by cases h),fun h=>absurd h h2⟩
 ·rw [cond_true];exact⟨fun h=>(by cases h),fun h=>by rw [h,less_irr] at h1; cases h1⟩
theorem rkey (v:Z7) (i:Nat):Z45 v (i:Int)=some (v.FKeys.l.getD i []):=by
 rw [Z45_eq]; exact key_eq v i
theorem l12_spec {v w:Z7}{rec:Z7->Z7->Option Int}{n:Nat}(hrec:∀x∈v.FItems.l,∀y∈w.FItems.l,∃c,rec x y=some c/\(c=0↔EqV n x y)) (hl:v.FItems.l.length<=1048576) :
  ∀(f i:Nat) (c:Int),i<=min v.FItems.l.length w.FItems.l.length->min v.FItems.l.length w.FItems.l.length-i<f ->
   ∃z,Z38_l12 v w rec f c (i:Int)=some z/\(z=0↔(c=0/\v.FItems.l.length=w.FItems.l.length/\∀j,i<=j->j<v.FItems.l.length->AtR (EqV n) v w j))
 | 0,_,_,_,h=>by omega
 | f+1,i,c,h1,h2=>by
  rw [Z38_l12];by_cases hc:c=0
  ·rw [dT hc,cond_true];by_cases hi:i<min v.FItems.l.length w.FItems.l.length
   ·have k1:i<v.FItems.l.length:=by omega
    have k2:i<w.FItems.l.length:=by omega
    have x1:idxC v.FItems.l (i:Int)=some v.FItems.l[i]:=by unfold idxC; rw [if_pos (by omega),Int.toNat_natCast,List.getElem?_eq_getElem k1]
    have x2:idxC w.FItems.l (i:Int)=some w.FItems.l[i]:=by unfold idxC; rw [if_pos (by omega),Int.toNat_natCast,List.getElem?_eq_getElem k2]
    have ha:addC (i:Int) 1=some ((i+1:Nat):Int):=by rw [addC_ok (by omega)]; rfl
    have g:(decide (((v.FItems.l.length:Nat):Int)<=(i:Int))||decide (((w.FItems.l.length:Nat):Int)<=(i:Int)))=false:=by
     rw [Bool.or_eq_false_iff,decide_eq_false_iff_not,decide_eq_false_iff_not]; omega
    rw [g,cond_false,rkey,oB,rkey,oB,Z47_eq,oB];have hk:=rstrings (v.FKeys.l.getD i []) (w.FKeys.l.getD i []);by_cases c0:Z47_q (v.FKeys.l.getD i []) (w.FKeys.l.getD i [])=0
    ·rw [dT c0,cond_true,x1,oB,x2,oB];obtain⟨d,e1,e2⟩:=hrec _ (List.getElem_mem k1) _ (List.getElem_mem k2);rw [e1,oB];unfold Z38_j18;rw [ha,oB];obtain⟨z,z1,z2⟩:=l12_spec hrec hl f (i+1) d (by omega) (by omega);refine⟨z,z1,z2.trans ⟨fun⟨u0,u1,u2⟩=>⟨hc,u1,fun j j1 j2=>?_⟩,fun⟨_,u1,u2⟩=>⟨?_,u1,fun j j1 j2=>u2 j (by omega) j2⟩⟩⟩
     ·rcases Nat.lt_or_ge i j with j3|j3
      ·exact u2 j j3 j2
      ·obtain rfl:j=i:=by omega
       exact⟨hk.1 c0,_,_,List.getElem?_eq_getElem k1,List.getElem?_eq_getElem k2,e2.1 u0⟩
     ·obtain⟨_,x,y,g1,g2,g3⟩:=u2 i (Nat.le_refl _) k1;rw [List.getElem?_eq_getElem k1] at g1; rw [List.getElem?_eq_getElem k2] at g2;cases g1; cases g2;exact e2.2 g3
    ·rw [dF c0,cond_false];unfold Z38_j18;rw [ha,oB];obtain⟨z,z1,z2⟩:=l12_spec hrec hl f (i+1) (Z47_q (v.FKeys.l.getD i []) (w.FKeys.l.getD i [])) (by omega) (by omega);exact⟨z,z1,z2.trans ⟨fun⟨u0,_⟩=>absurd u0 c0,fun⟨_,u1,u2⟩=>absurd (hk.2 (u2 i (Nat.le_refl _) k1).1) c0⟩⟩
   ·have g:(decide (((v.FItems.l.length:Nat):Int)<=(i:Int))||decide (((w.FItems.l.length:Nat):Int)<=(i:Int)))=true:=by
     rw [Bool.or_eq_true,decide_eq_true_eq,decide_eq_true_eq]; omega
    rw [g,cond_true,Z44_eq,oB];have hi2:=rints ((v.FItems.l.length:Nat):Int) ((w.FItems.l.length:Nat):Int);exact⟨_,rfl,hi2.trans ⟨fun h=>⟨hc,by omega,fun j j1 j2=>by omega⟩,fun⟨_,h,_⟩=>by rw [h]⟩⟩
  ·rw [dF hc,cond_false];exact⟨c,rfl,⟨fun h=>absurd h hc,fun⟨h,_⟩=>h⟩⟩
theorem rcmpV (n:Nat):∀v w:Z7,v.sz<n->v.sz<=1048576->∃c,Z38_n n v w=some c/\(c=0↔EqV n v w):=by
 induction n with
 | zero=>intro v w h; omega
 | succ n ih =>
  intro v w hn hs;have hd:=v.sz_def;have hi:Sl.sz Z7.sz v.FItems=1+(v.FItems.l.map Z7.sz).sum:=rfl;have hl:=Sl.len_le (f:=Z7.sz) v.FItems (fun x=>x.pos);have j6:∀c:Int,∃z,Z38_j6 v w (Z38_n n) c=some z/\(z=0↔(c=0/\v.FItems.l.length=w.FItems.l.length/\∀j,0<=j->j<v.FItems.l.length->AtR (EqV n) v w j)):=fun c =>
   l12_spec (v:=v) (w:=w) (rec:=Z38_n n) (n:=n) (fun x hx y _=>ih x y (by have:=Z7.item_lt hx; omega) (by have:=Z7.item_lt hx; omega)) (by omega) F0 0 c (Nat.zero_le _) (by rw [F0_eq]; omega)
  have j4:∀c:Int,∃z,Z38_j4 v w (Z38_n n) c=some z/\(z=0↔(c=0/\v.FText=w.FText/\v.FItems.l.length=w.FItems.l.length/\∀j,0<=j->j<v.FItems.l.length->AtR (EqV n) v w j)):=by
   intro c;unfold Z38_j4;by_cases hc:c=0
   ·rw [dT hc,cond_true,Z47_eq,oB];obtain⟨z,z1,z2⟩:=j6 (Z47_q v.FText w.FText);exact⟨z,z1,z2.trans (by rw [rstrings]; exact⟨fun⟨a,b⟩=>⟨hc,a,b⟩,fun⟨_,a,b⟩=>⟨a,b⟩⟩)⟩
   ·rw [dF hc,cond_false];obtain⟨z,z1,z2⟩:=j6 c;exact⟨z,z1,z2.trans ⟨fun⟨a,_⟩=>absurd a hc,fun⟨a,_⟩=>absurd a hc⟩⟩
  rw [Z38_n,Z44_eq,oB];have hk:=rints v.FKind w.FKind;have hn:=rints v.FInt w.FInt;by_cases c1:Z44_q v.FKind w.FKind=0
  ·rw [dT c1,cond_true,Z44_eq,oB];obtain⟨z,z1,z2⟩:=j4 (Z44_q v.FInt w.FInt);exact⟨z,z1,z2.trans ⟨fun⟨a,b,c,d⟩=>⟨hk.1 c1,hn.1 a,b,c,d⟩,fun⟨_,a,b,c,d⟩=>⟨hn.2 a,b,c,d⟩⟩⟩
  ·rw [dF c1,cond_false];obtain⟨z,z1,z2⟩:=j4 (Z44_q v.FKind w.FKind);exact⟨z,z1,z2.trans ⟨fun⟨a,_⟩=>absurd a c1,fun⟨a,_⟩=>absurd (hk.2 a) c1⟩⟩
theorem rsame_is {v w:Z7}(hv:v.sz<=1048576):Z41_q v w=some (vsX v w):=by
 obtain⟨c,e1,e2⟩:=rcmpV F0 v w (by rw [F0_eq]; omega) hv;have e:Z41_q v w=some (decide (c=0)):=by unfold Z41_q Z38; rw [e1]; rfl
 rw [e]
 congr 1
 rw [Bool.eq_iff_iff,decide_eq_true_iff,(vsame hv).2];exact e2
end Go.Proofs

namespace Go.Proofs
open Go Go.Ab
def Le (a b:Bs):Bool:=Op.bytesLess a b||a==b
theorem less_irr1:∀x:Bs,Op.bytesLess x x=false
 | []=>by simp [Op.bytesLess]
 | a::x=>by rw [Op.bytesLess,less_irr1 x]; simp
theorem less_trans:∀{a b c:Bs},Op.bytesLess a b=true->Op.bytesLess b c=true->Op.bytesLess a c=true
 | _,[],_,h,_=>by cases ‹Bs›<;>simp [Op.bytesLess] at h
 | _,_::_,[],_,h=>by simp [Op.bytesLess] at h
 | [],_::_,_::_,_,_=>by simp [Op.bytesLess]
 | a::x,b::y,c::z,h,g=>by
  simp only [Op.bytesLess,Bool.or_eq_true,Bool.and_eq_true,decide_eq_true_eq,beq_iff_eq] at h g ⊢;rcases h with h|⟨rfl,h⟩<;>rcases g with g|⟨rfl,g⟩
  ·exact .inl (UInt8.lt_trans h g)
  ·exact .inl h
  ·exact .inl g
  ·exact .inr ⟨rfl,less_trans h g⟩
theorem less_total:∀a b:Bs,Op.bytesLess a b=true\/a=b\/Op.bytesLess b a=true
 | [],[]=>.inr (.inl rfl)
 | [],_::_=>.inl (by simp [Op.bytesLess])
 | _::_,[]=>.inr (.inr (by simp [Op.bytesLess]))
 | a::x,b::y=>by
  simp only [Op.bytesLess,Bool.or_eq_true,Bool.and_eq_true,decide_eq_true_eq,beq_iff_eq];by_cases h:a<b
  ·exact .inl (.inl h)
  ·by_cases g:b<a
   ·exact .inr (.inr (.inl g))
   ·have e:a=b:=UInt8.le_antisymm (UInt8.not_lt.mp g) (UInt8.not_lt.mp h);subst e;rcases less_total x y with h1|rfl|h1
    ·exact .inl (.inr ⟨rfl,h1⟩)
    ·exact .inr (.inl rfl)
    ·exact .inr (.inr (.inr ⟨rfl,h1⟩))
theorem Le.trans {a b c:Bs}(h:Le a b=true) (g:Le b c=true):Le a c=true:=by
 unfold Le at *;simp only [Bool.or_eq_true,beq_iff_eq] at *;rcases h with h|rfl
 ·rcases g with g|rfl
  ·exact .inl (less_trans h g)
  ·exact .inl h
 ·exact g
theorem Le.flip {a b:Bs}(h:Le a b=false):Le b a=true:=by
 unfold Le at *;simp only [Bool.or_eq_false_iff,Bool.or_eq_true,beq_iff_eq] at *;rcases less_total a b with h1|rfl|h1
 ·rw [h1] at h; cases h.1
 ·exact .inr rfl
 ·exact .inl h1
theorem Le.anti {a b:Bs}(h:Le a b=true) (g:Le b a=true):a=b:=by
 unfold Le at *;simp only [Bool.or_eq_true,beq_iff_eq] at *;rcases h with h|rfl
 ·rcases g with g|rfl
  ·have:=less_trans h g; rw [less_irr1] at this; cases this
  ·rfl
 ·rfl
theorem tw_len {α:Type}{P:α->Bool}{l:List α}{k:Nat}(h1:∀x∈l.take k,P x=true) (h2:∀x,l[k]?=some x->P x=false) (hk:k<=l.length):l.takeWhile P=l.take k/\l.dropWhile P=l.drop k:=by
 induction l generalizing k with
 | nil=>simp
 | cons a r ih =>
  cases k with
  | zero=>have:=h2 a (by simp); simp [this]
  | succ k =>
   have ha:P a=true:=h1 a (by simp);obtain⟨e1,e2⟩:=ih (k:=k) (fun x hx=>h1 x (by simp [hx])) (fun x hx=>h2 x (by simpa using hx)) (by simpa using hk);simp [ha,e1,e2]
def insO (N:List Bs) (i:Nat) (s:List Int):List Int :=
 s.takeWhile (fun j=>Le (N.getD j.toNat []) (N.getD i []))++(i:Int)::s.dropWhile (fun j=>Le (N.getD j.toNat []) (N.getD i []))
def ordO (N:List Bs):Nat->List Int
 | 0=>[]
 | i+1=>insO N i (ordO N i)
theorem ordO_perm (N:List Bs):∀n,(ordO N n).Perm ((List.range n).map Int.ofNat)
 | 0=>.nil
 | n+1=>by
  rw [List.range_succ,List.map_append,ordO];unfold insO;refine List.perm_middle.trans ?_;rw [List.takeWhile_append_dropWhile];exact((ordO_perm N n).cons _).trans (List.perm_append_comm (l₁:=[_]))
theorem ordO_mem {N:List Bs}{n:Nat}{j:Int}(h:j∈ordO N n):∃k:Nat,j=(k:Int)/\k<n:=by
 have:=(ordO_perm N n).mem_iff.1 h;obtain⟨k,hk,rfl⟩:=List.mem_map.1 this;exact⟨k,rfl,List.mem_range.1 hk⟩
theorem ordO_len (N:List Bs) (n:Nat):(ordO N n).length=n:=by rw [(ordO_perm N n).length_eq]; simp
theorem dw_head {α:Type}{P:α->Bool}:∀{l:List α}{a:α}{r:List α},l.dropWhile P=a::r->P a=false
 | [],_,_,h=>by cases h
 | b::l,a,r,h=>by
  rw [List.dropWhile_cons] at h;cases hb:P b
  ·rw [hb] at h; simp at h; rw [<- h.1]; exact hb
  ·rw [hb,if_pos rfl] at h; exact dw_head h
theorem tw_mem {α:Type}{P:α->Bool}{l:List α}{x:α}(h:x∈l.takeWhile P):P x=true:=by
 induction l with
 | nil=>cases h
 | cons a r ih =>
  rw [List.takeWhile_cons] at h;cases ha:P a
  ·rw [ha] at h; cases h
  ·rw [ha,if_pos rfl] at h;rcases List.mem_cons.1 h with rfl|h
   ·exact ha
   ·exact ih h
theorem ordO_sort (N:List Bs):∀n,(ordO N n).Pairwise fun i j=>Le (N.getD i.toNat []) (N.getD j.toNat [])=true
 | 0=>.nil
 | n+1=>by
  have ih:=ordO_sort N n;rw [ordO];unfold insO;generalize hs:ordO N n=s at *;have hd:(s.dropWhile fun j=>Le (N.getD j.toNat []) (N.getD n [])).Pairwise fun i j=>Le (N.getD i.toNat []) (N.getD j.toNat [])=true:=ih.sublist (List.dropWhile_sublist _);have hb:∀j∈s.dropWhile (fun j=>Le (N.getD j.toNat []) (N.getD n [])),Le (N.getD n []) (N.getD j.toNat [])=true:=by
   cases e:s.dropWhile (fun j=>Le (N.getD j.toNat []) (N.getD n [])) with
   | nil=>intro j hj; cases hj
   | cons a r =>
    rw [e] at hd;have ha:Le (N.getD n []) (N.getD a.toNat [])=true:=Le.flip (dw_head (P:=fun j:Int=>Le (N.getD j.toNat []) (N.getD n [])) e);intro j hj;rcases List.mem_cons.1 hj with rfl|hj
    ·exact ha
    ·exact Le.trans ha ((List.pairwise_cons.1 hd).1 j hj)
  have ht:∀j∈s.takeWhile (fun j=>Le (N.getD j.toNat []) (N.getD n [])),Le (N.getD j.toNat []) (N.getD n [])=true:=fun j hj=>tw_mem (P:=fun j:Int=>Le (N.getD j.toNat []) (N.getD n [])) hj;rw [List.pairwise_append];refine⟨ih.sublist (List.takeWhile_sublist _),List.pairwise_cons.2 ⟨fun j hj=>by simpa using hb j hj,hd⟩,fun i hi j hj=>?_⟩;rcases List.mem_cons.1 hj with rfl|hj
  ·simpa using ht i hi
  ·exact Le.trans (ht i hi) (hb j hj)
theorem app8 {s r:Sl Int}(h:s.l.length+r.l.length<=10000000):appC 8 s r=some ⟨s.nl&&r.l.isEmpty,s.l++r.l⟩:=appC_ok (by omega) (by omega)
theorem order_l26 {N:Sl Bs}{s:Sl Int}{i:Nat}{K:Sl Int->Nat->Option (Sl Int)}(hi:i<N.l.length) (hs:∀j∈s.l,∃k:Nat,j=(k:Int)/\k<N.l.length) (hl:s.l.length<=2000000) :
  ∀(n k:Nat) (nl:Bool),k<=s.l.length->s.l.length-k<n->(∀x∈s.l.take k,Le (N.l.getD x.toNat []) (N.l.getD i [])=true) ->
   Z78_l26 N s i K n ⟨nl,s.l.take k⟩ (k:Int)=K ⟨false,insO N.l i s.l⟩ (i+1)
 | 0,_,_,_,h,_=>by omega
 | n+1,k,nl,hk,hn,hp=>by
  have fin:(∀x,s.l[k]?=some x->Le (N.l.getD x.toNat []) (N.l.getD i [])=false)->Z78_j18 s i K ⟨nl,s.l.take k⟩ (k:Int)=K ⟨false,insO N.l i s.l⟩ (i+1):=fun h2=>by
   obtain⟨e1,e2⟩:=tw_len hp h2 hk;unfold Z78_j18 insO;rw [app8 (by simp; omega),oB];have hc:partC s (some (k:Int)) none=some ⟨s.nl,s.l.drop k⟩:=by
    unfold partC;rw [if_pos (by simp; omega)]; simp
   rw [hc,oB,app8 (by simp; omega),oB];unfold Z78_j14;simp only [e1,e2,List.isEmpty_cons,Bool.and_false,Bool.false_and,List.append_assoc,List.singleton_append]
  rw [Z78_l26];by_cases h:k<s.l.length
  ·rw [dT (by omega:((k:Nat):Int)<((s.l.length:Nat):Int))];obtain⟨m,hm,hm2⟩:=hs s.l[k] (List.getElem_mem h);have h1:idxC s.l (k:Int)=some (m:Int):=by
    unfold idxC; rw [if_pos (by omega),Int.toNat_natCast,List.getElem?_eq_getElem h,hm]
   have h2:idxC N.l (m:Int)=some (N.l.getD m []):=by
    unfold idxC; rw [if_pos (by omega),Int.toNat_natCast,List.getElem?_eq_getElem hm2,List.getD_eq_getElem?_getD,List.getElem?_eq_getElem hm2]; rfl
   have h3:N.l[i]?=some (N.l.getD i []):=by
    rw [List.getD_eq_getElem?_getD,List.getElem?_eq_getElem hi]; rfl
   unfold guardO;simp only [if_true,h1,h2,h3,oB,Bool.true_and];cases hc:(Op.bytesLess (N.l.getD m []) (N.l.getD i [])||N.l.getD m []==N.l.getD i [])
   ·rw [cond_false];refine fin fun x hx=>?_;rw [List.getElem?_eq_getElem h,hm] at hx;obtain rfl:=oJ hx;rw [Int.toNat_natCast]; exact hc
   ·rw [cond_true,app8 (by simp; omega),oB,addC_ok (by omega),oB];have ht:s.l.take k++[(m:Int)]=s.l.take (k+1):=by rw [List.take_add_one,List.getElem?_eq_getElem h,hm]; rfl
    rw [show (⟨(⟨nl,s.l.take k⟩:Sl Int).nl&&(⟨false,[(m:Int)]⟩:Sl Int).l.isEmpty,(⟨nl,s.l.take k⟩:Sl Int).l++(⟨false,[(m:Int)]⟩:Sl Int).l⟩:Sl Int)=⟨(nl&&false),s.l.take (k+1)⟩ from by simp only [ht,List.isEmpty_cons]];refine order_l26 hi hs hl n (k+1) _ h (by omega) fun x hx=>?_;rw [<- ht] at hx;rcases List.mem_append.1 hx with hx|hx
    ·exact hp x hx
    ·rw [List.mem_singleton.1 hx,Int.toNat_natCast]; exact hc
  ·rw [dF (by omega:¬((k:Nat):Int)<((s.l.length:Nat):Int))];unfold guardO;simp only [Bool.false_eq_true,if_false,Bool.false_and,cond_false];exact fin fun x hx=>by rw [List.getElem?_eq_none (by omega)] at hx; cases hx
theorem order_l7 {N:Sl Bs}(hN:N.l.length<=1000000):∀(n i:Nat) (nl:Bool),i<=N.l.length->N.l.length-i<n->∃nl',Z78_l7 N n ⟨nl,ordO N.l i⟩ i=some ⟨nl',ordO N.l N.l.length⟩
 | 0,_,_,_,h=>by omega
 | n+1,i,nl,hi,hn=>by
  rw [Z78_l7];by_cases h:i<N.l.length
  ·rw [dT (by omega:((i:Nat):Int)<((N.l.length:Nat):Int)),cond_true];have:=order_l26 (N:=N) (s:=⟨nl,ordO N.l i⟩) (K:=Z78_l7 N n) h (fun j hj=>by obtain⟨k,e,hk⟩:=ordO_mem hj; exact⟨k,e,by omega⟩) (by rw [show (⟨nl,ordO N.l i⟩:Sl Int).l=ordO N.l i from rfl,ordO_len]; omega) F0 0 true (Nat.zero_le _) (by rw [show (⟨nl,ordO N.l i⟩:Sl Int).l=ordO N.l i from rfl,ordO_len,F0_eq]; omega) (fun x hx=>by simp at hx)
   rw [List.take_zero] at this;rw [show (Sl.nil:Sl Int)=⟨true,[]⟩ from rfl,show (0:Int)=((0:Nat):Int) from rfl,this];exact order_l7 hN n (i+1) false h (by omega)
  ·rw [dF (by omega:¬((i:Nat):Int)<((N.l.length:Nat):Int)),cond_false];have:i=N.l.length:=by omega
   subst this;exact⟨nl,rfl⟩
theorem order_is {N:Sl Bs}(hN:N.l.length<=1000000):∃nl,Z78_q N=some ⟨nl,ordO N.l N.l.length⟩:=by
 unfold Z78_q Z78;exact order_l7 hN _ 0 true (Nat.zero_le _) (by omega)
def srt {α:Type}(key:α->Bs) (A:List α):List α:=(ordO (A.map key) A.length).filterMap fun j=>A[j.toNat]?
theorem fm_get {α:Type}(A:List α):(List.range A.length).filterMap (fun j=>A[j]?)=A:=by
 induction A with
 | nil=>rfl
 | cons a r ih =>
  rw [List.length_cons,List.range_succ_eq_map,List.filterMap_cons,List.filterMap_map];simp only [List.getElem?_cons_zero]
  congr 1
theorem srt_perm {α:Type}(key:α->Bs) (A:List α):(srt key A).Perm A:=by
 unfold srt;refine((ordO_perm (A.map key) A.length).filterMap _).trans ?_;rw [List.filterMap_map];exact .of_eq (fm_get A)
theorem srt_sort {α:Type}(key:α->Bs) (A:List α):(srt key A).Pairwise fun x y=>Le (key x) (key y)=true:=by
 unfold srt;rw [List.pairwise_filterMap];refine(ordO_sort (A.map key) A.length).imp fun {i j} h x hx y hy=>?_;have ex:∀{k:Nat}{z:α},A[k]?=some z->(A.map key).getD k []=key z:=fun {k z} hz=>by
  rw [List.getD_eq_getElem?_getD,List.getElem?_map,hz]; rfl
 rw [ex hx,ex hy] at h;exact h
end Go.Proofs

namespace Go.Proofs
open Go Go.Ab
def fa2 {α:Type}(S:α->α->Bool):List α->List α->Bool
 | [],[]=>true
 | x::a,y::b=>S x y&&fa2 S a b
 | _,_=>false
def Mt {α:Type}(key:α->Bs) (R:α->α->Prop) (A B:List α):Prop:=(∀x∈A,∃y∈B,key y=key x/\R x y)/\∀y∈B,∃x∈A,key x=key y
section
variable {α γ:Type}{key:α->Bs}
theorem Mt.congr {R R':α->α->Prop}{A B:List α}(h:∀x∈A,∀y∈B,key y=key x->(R x y↔R' x y)):Mt key R A B↔Mt key R' A B:=by
 unfold Mt;constructor
 ·rintro ⟨h1,h2⟩;exact⟨fun x hx=>by obtain⟨y,hy,e,r⟩:=h1 x hx; exact⟨y,hy,e,(h x hx y hy e).1 r⟩,h2⟩
 ·rintro ⟨h1,h2⟩;exact⟨fun x hx=>by obtain⟨y,hy,e,r⟩:=h1 x hx; exact⟨y,hy,e,(h x hx y hy e).2 r⟩,h2⟩
theorem dst_eq {A:List α}(h:Dst key A):∀x∈A,∀y∈A,key x=key y->x=y:=by
 induction A with
 | nil=>intro x hx; cases hx
 | cons a r ih =>
  obtain⟨h1,h2⟩:=List.pairwise_cons.1 h;intro x hx y hy e;rcases List.mem_cons.1 hx with ex|hx'<;>rcases List.mem_cons.1 hy with ey|hy'
  ·rw [ex,ey]
  ·exact absurd (ex▸e) (h1 y hy')
  ·exact absurd (ey▸e).symm (h1 x hx')
  ·exact ih h2 x hx' y hy' e
theorem dst_perm {A A':List α}(p:A'.Perm A) (h:Dst key A):Dst key A':=by
 unfold Dst at *;exact(p.pairwise_iff fun {x y} h e=>h e.symm).2 h
theorem fa2_sorted {S:α->α->Bool}:∀{A B:List α},(∀x∈A,∀y∈B,S x y=true->key x=key y)->Dst key A->Dst key B->A.Pairwise (fun x y=>Le (key x) (key y)=true)->B.Pairwise (fun x y=>Le (key x) (key y)=true) ->
  (fa2 S A B=true↔Mt key (fun x y=>S x y=true) A B)
 | [],[],_,_,_,_,_=>⟨fun _=>⟨fun x hx=>(by cases hx),fun y hy=>(by cases hy)⟩,fun _=>rfl⟩
 | [],y::b,_,_,_,_,_=>⟨fun h=>(by cases h),fun h=>by obtain⟨x,hx,_⟩:=h.2 y (.head _); cases hx⟩
 | x::a,[],_,_,_,_,_=>⟨fun h=>(by cases h),fun h=>by obtain⟨y,hy,_⟩:=h.1 x (.head _); cases hy⟩
 | x::a,y::b,hk,dA,dB,sA,sB=>by
  have ih:=fa2_sorted (S:=S) (A:=a) (B:=b) (fun x hx y hy=>hk x (.tail _ hx) y (.tail _ hy)) (List.pairwise_cons.1 dA).2 (List.pairwise_cons.1 dB).2 (List.pairwise_cons.1 sA).2 (List.pairwise_cons.1 sB).2;rw [fa2,Bool.and_eq_true,ih];constructor
  ·rintro ⟨h0,h1,h2⟩;have e:=hk x (.head _) y (.head _) h0;refine⟨fun z hz=>?_,fun z hz=>?_⟩
   ·rcases List.mem_cons.1 hz with rfl|hz
    ·exact⟨y,.head _,e.symm,h0⟩
    ·obtain⟨w,hw,r⟩:=h1 z hz; exact⟨w,.tail _ hw,r⟩
   ·rcases List.mem_cons.1 hz with rfl|hz
    ·exact⟨x,.head _,e⟩
    ·obtain⟨w,hw,r⟩:=h2 z hz; exact⟨w,.tail _ hw,r⟩
  ·rintro ⟨h1,h2⟩;obtain⟨y',hy',ey,sy⟩:=h1 x (.head _);obtain⟨x',hx',ex⟩:=h2 y (.head _);have l1:Le (key y) (key x)=true:=by
    rw [<- ey];rcases List.mem_cons.1 hy' with e|hy'
    ·rw [e]; unfold Le; simp
    ·exact(List.pairwise_cons.1 sB).1 y' hy'
   have l2:Le (key x) (key y)=true:=by
    rw [<- ex];rcases List.mem_cons.1 hx' with e|hx'
    ·rw [e]; unfold Le; simp
    ·exact(List.pairwise_cons.1 sA).1 x' hx'
   have e:key x=key y:=Le.anti l2 l1;obtain rfl:y'=y:=dst_eq dB y' hy' y (.head _) (ey.trans e);refine⟨sy,fun z hz=>?_,fun z hz=>?_⟩
   ·obtain⟨w,hw,ew,r⟩:=h1 z (.tail _ hz);rcases List.mem_cons.1 hw with rfl|hw
    ·exact absurd (e.trans ew) ((List.pairwise_cons.1 dA).1 z hz)
    ·exact⟨w,hw,ew,r⟩
   ·obtain⟨w,hw,ew⟩:=h2 z (.tail _ hz);rcases List.mem_cons.1 hw with rfl|hw
    ·exact absurd (e.symm.trans ew) ((List.pairwise_cons.1 dB).1 z hz)
    ·exact⟨w,hw,ew⟩
theorem Mt.perm {R:α->α->Prop}{A A' B B':List α}(p:A'.Perm A) (q:B'.Perm B):Mt key R A' B'↔Mt key R A B:=by
 unfold Mt;constructor
 ·rintro ⟨h1,h2⟩;refine⟨fun x hx=>?_,fun y hy=>?_⟩
  ·obtain⟨y,hy,r⟩:=h1 x (p.mem_iff.2 hx); exact⟨y,q.mem_iff.1 hy,r⟩
  ·obtain⟨x,hx,r⟩:=h2 y (q.mem_iff.2 hy); exact⟨x,p.mem_iff.1 hx,r⟩
 ·rintro ⟨h1,h2⟩;refine⟨fun x hx=>?_,fun y hy=>?_⟩
  ·obtain⟨y,hy,r⟩:=h1 x (p.mem_iff.1 hx); exact⟨y,q.mem_iff.2 hy,r⟩
  ·obtain⟨x,hx,r⟩:=h2 y (q.mem_iff.1 hy); exact⟨x,p.mem_iff.2 hx,r⟩
theorem fa2_srt {S:α->α->Bool}{A B:List α}(hk:∀x∈A,∀y∈B,S x y=true->key x=key y) (dA:Dst key A) (dB:Dst key B):fa2 S (srt key A) (srt key B)=true↔Mt key (fun x y=>S x y=true) A B:=by
 have p:=srt_perm key A; have q:=srt_perm key B;rw [fa2_sorted (fun x hx y hy=>hk x (p.mem_iff.1 hx) y (q.mem_iff.1 hy)) (dst_perm p dA) (dst_perm q dB) (srt_sort key A) (srt_sort key B)];exact Mt.perm p q
theorem find_get {B:List α}{k:Bs}{y:α}(h:B.find? (fun t=>key t==k)=some y):y∈B/\key y=k:=⟨List.mem_of_find?_eq_some h,by have:=List.find?_some h; simpa using this⟩
theorem find_of {B:List α}(d:Dst key B){y:α}{k:Bs}(hy:y∈B) (e:key y=k):B.find? (fun t=>key t==k)=some y:=by
 cases h:B.find? (fun t=>key t==k) with
 | none=>exact absurd (List.find?_eq_none.1 h y hy) (by simp [e])
 | some z=>obtain⟨hz,ez⟩:=find_get h; rw [dst_eq d z hz y hy (ez.trans e.symm)]
theorem fm_nil2 {β:Type}{f:α->List β}:∀{A:List α},A.flatMap f=[]↔∀x∈A,f x=[]
 | []=>by simp
 | a::r=>by simp only [List.flatMap_cons,List.append_eq_nil_iff,fm_nil2 (A:=r),List.mem_cons,forall_eq_or_imp]
theorem lon_nil {n:α->List γ}{A B:List α}(hn:∀y,n y≠[]):lon key n B A=[]↔∀y∈B,∃x∈A,key x=key y:=by
 unfold lon;rw [fm_nil2];refine forall_congr' fun y=>forall_congr' fun hy=>?_;cases h:A.find? (fun t=>key t==key y) with
 | none=>exact⟨fun e=>absurd e (hn y),fun⟨x,hx,e⟩=>absurd (List.find?_eq_none.1 h x hx) (by simp [e])⟩
 | some x=>exact⟨fun _=>⟨x,(find_get h).1,(find_get h).2⟩,fun _=>rfl⟩
theorem dif_nil {w:α->α->List γ}{g n:α->List γ}{A B:List α}(hg:∀x,g x≠[]) (hn:∀y,n y≠[]) (dB:Dst key B):dif key w g A B++lon key n B A=[]↔Mt key (fun x y=>w x y=[]) A B:=by
 rw [List.append_eq_nil_iff,lon_nil hn];unfold Mt;refine and_congr ?_ Iff.rfl;unfold dif;rw [fm_nil2];refine forall_congr' fun x=>forall_congr' fun hx=>?_;cases h:B.find? (fun t=>key t==key x) with
 | none=>exact⟨fun e=>absurd e (hg x),fun⟨y,hy,e,_⟩=>absurd (List.find?_eq_none.1 h y hy) (by simp [e])⟩
 | some y =>
  obtain⟨h1,h2⟩:=find_get h;refine⟨fun e=>⟨y,h1,h2,e⟩,fun⟨z,hz,e,r⟩=>?_⟩;rw [find_of dB hz e] at h;obtain rfl:=oJ h;exact r
theorem prs_nil {w:α->α->List γ}{A B:List α}(dB:Dst key B):prs key w A B=[]↔∀x∈A,∀y∈B,key y=key x->w x y=[]:=by
 unfold prs;rw [fm_nil2];refine forall_congr' fun x=>forall_congr' fun hx=>?_;cases h:B.find? (fun t=>key t==key x) with
 | none=>exact⟨fun _ y hy e=>absurd (List.find?_eq_none.1 h y hy) (by simp [e]),fun _=>rfl⟩
 | some y =>
  obtain⟨h1,h2⟩:=find_get h;refine⟨fun e z hz ez=>?_,fun e=>e y h1 h2⟩;rw [find_of dB hz ez] at h;obtain rfl:=oJ h;exact e
theorem all_nil {w:α->α->List γ}{g n:α->List γ}{A B:List α}(hg:∀x,g x≠[]) (hn:∀y,n y≠[]) (dB:Dst key B):lon key g A B++(prs key w A B++lon key n B A)=[]↔Mt key (fun x y=>w x y=[]) A B:=by
 rw [List.append_eq_nil_iff,List.append_eq_nil_iff,lon_nil hg,lon_nil hn,prs_nil dB];unfold Mt;constructor
 ·rintro ⟨h1,h2,h3⟩;exact⟨fun x hx=>by obtain⟨y,hy,e⟩:=h1 x hx; exact⟨y,hy,e,h2 x hx y hy e⟩,h3⟩
 ·rintro ⟨h1,h3⟩;refine⟨fun x hx=>by obtain⟨y,hy,e,_⟩:=h1 x hx; exact⟨y,hy,e⟩,fun x hx y hy e=>?_,h3⟩;obtain⟨z,hz,ez,r⟩:=h1 x hx;obtain rfl:=dst_eq dB z hz y hy (ez.trans e.symm);exact r
end
theorem srt_map {α β:Type}{k:α->Bs}{k':β->Bs}(f:α->β) (h:∀x,k' (f x)=k x) (A:List α):srt k' (A.map f)=(srt k A).map f:=by
 unfold srt;rw [List.map_map,List.length_map,show (k' ∘ f)=k from funext h,List.map_filterMap]
 congr 1
 funext j
 rw [List.getElem?_map]
end Go.Proofs

namespace Go.Proofs
open Go Go.Ab
theorem appZ {α:Type}{z:Nat}{s r:Sl α}(hz:z<=200) (h:s.l.length+r.l.length<=10000000):appC z s r=some ⟨s.nl&&r.l.isEmpty,s.l++r.l⟩:=by
 unfold appC; rw [if_pos];have:(s.l.length+r.l.length)*z<=(s.l.length+r.l.length)*200:=Nat.mul_le_mul_left _ hz;unfold maxN; omega
structure Cp (v v':Z7):Prop where
 s:v'.sz=v.sz
 e:∀m w,EqV m v' w↔EqV m v w
theorem cp_loop {rec:Z7->Option Z7}:∀(l:List Z7) (s:List Z7) (nl:Bool),(∀x∈l,∃x',rec x=some x'/\Cp x x')->s.length+l.length<=5000000->∃r nl',Z43_q7 rec l ⟨nl,s⟩=some ⟨nl',s++r⟩/\All2 Cp l r
 | [],s,nl,_,_=>⟨[],nl,by rw [Z43_q7,List.append_nil],.nil⟩
 | x::l,s,nl,hx,hl=>by
  obtain⟨x',e,c⟩:=hx x (.head _);rw [List.length_cons] at hl;rw [Z43_q7];simp only [Ab.on];rw [e,oB,appZ (by omega) (by simp; omega),oB];obtain⟨r,nl',e2,h2⟩:=cp_loop l (s++[x']) (nl&&false) (fun y hy=>hx y (.tail _ hy)) (by simp; omega);refine⟨x'::r,nl', ?_,.cons c h2⟩;rw [show (⟨(⟨nl,s⟩:Sl Z7).nl&&(⟨false,[x']⟩:Sl Z7).l.isEmpty,(⟨nl,s⟩:Sl Z7).l++(⟨false,[x']⟩:Sl Z7).l⟩:Sl Z7)=⟨nl&&false,s++[x']⟩ from rfl,e2,List.append_assoc]; rfl
theorem cp_sum:∀{l r:List Z7},All2 Cp l r->(r.map Z7.sz).sum=(l.map Z7.sz).sum
 | _,_,.nil=>rfl
 | _,_,.cons c h=>by simp only [List.map_cons,List.sum_cons,c.s,cp_sum h]
theorem cp_get:∀{l r:List Z7},All2 Cp l r->l.length=r.length/\∀(j:Nat) (x:Z7),l[j]?=some x->∃x',r[j]?=some x'/\Cp x x'
 | _,_,.nil=>⟨rfl,fun j x h=>by simp at h⟩
 | _,_,.cons (a:=a) (b:=b) c h=>by
  obtain⟨h1,h2⟩:=cp_get h;refine⟨by simp [h1],fun j x hx=>?_⟩;cases j with
  | zero=>simp at hx; subst hx; exact⟨b,by simp,c⟩
  | succ j=>exact h2 j x (by simpa using hx)
theorem rcopy_n:∀(n:Nat) (v:Z7),2*v.sz+2<=n->v.sz<=1048576->∃v',r02_Copy_qn n v=some v'/\Cp v v'
 | 0,_,h,_=>by omega
 | 1,v,h,_=>by have:=v.sz_def; omega
 | n+2,v,h,hs=>by
  have hd:=v.sz_def;have hi:Sl.sz Z7.sz v.FItems=1+(v.FItems.l.map Z7.sz).sum:=rfl;have hlen:v.FItems.l.length<=1048576:=by have:=Sl.len_le (f:=Z7.sz) v.FItems (fun x=>x.pos); omega
  have hkey:v.FKeys.l.length<=1048576:=by have:=Sl.len_le (f:=Bs.sz) v.FKeys (fun x=>Bs.sz_pos x); omega
  obtain⟨r,nl',e,hr⟩:=cp_loop (rec:=r02_Copy_qn n) v.FItems.l [] true (fun x hx=>by
   have:=Z7.item_lt hx;exact rcopy_n n x (by omega) (by omega)) (by simp; omega)
  rw [List.nil_append] at e;refine⟨Z7.mk v.FKind v.FInt v.FText nl' r ⟨false,v.FKeys.l⟩, ?_, ?_, ?_⟩
  ·rw [r02_Copy_qn,Z43_qn];simp only [Ab.on];rw [show (Sl.nil:Sl Z7)=⟨true,[]⟩ from rfl,e];simp only [oB];rw [appZ (by omega) (by simp; omega),oB]; rfl
  ·rw [Z7.sz_def,Z7.sz_def v];show 0+1+1+Bs.sz v.FText+(1+(r.map Z7.sz).sum)+Sl.sz Bs.sz (⟨false,v.FKeys.l⟩:Sl Bs)=_;rw [cp_sum hr,hi]; rfl
  ·intro m w;cases m with
   | zero=>exact Iff.rfl
   | succ m =>
    obtain⟨gl,gg⟩:=cp_get hr;unfold EqV;show (v.FKind=w.FKind/\v.FInt=w.FInt/\v.FText=w.FText/\r.length=w.FItems.l.length/\∀j,0<=j->j<r.length->AtR (EqV m) _ w j)↔_;rw [<- gl];refine and_congr Iff.rfl (and_congr Iff.rfl (and_congr Iff.rfl (and_congr Iff.rfl (forall_congr' fun j=>forall_congr' fun _=>forall_congr' fun hj=>?_))));unfold AtR;refine and_congr Iff.rfl ?_;show (∃x y,r[j]?=some x/\w.FItems.l[j]?=some y/\EqV m x y)↔∃x y,v.FItems.l[j]?=some x/\w.FItems.l[j]?=some y/\EqV m x y
    obtain⟨x',ex,cx⟩:=gg j _ (List.getElem?_eq_getElem hj);constructor
    ·rintro ⟨x,y,e1,e2,e3⟩;rw [ex] at e1;obtain rfl:=oJ e1;exact⟨_,y,List.getElem?_eq_getElem hj,e2,(cx.e m y).1 e3⟩
    ·rintro ⟨x,y,e1,e2,e3⟩;rw [List.getElem?_eq_getElem hj] at e1;obtain rfl:=oJ e1;exact⟨x',y,ex,e2,(cx.e m y).2 e3⟩
theorem rcopy {v:Z7}(hs:v.sz<=1048576):∃v',r02_Copy_q v=some v'/\Cp v v':=rcopy_n F0 v (by rw [F0_eq]; omega) hs
theorem Cp.same {v v' w w':Z7}(hv:Cp v v') (hw:Cp w w') (sv:v.sz<=1048576):vsX v' w'=vsX v w:=by
 rw [Bool.eq_iff_iff,(vsame (w:=w') (v:=v') (by rw [hv.s]; exact sv)).2,(vsame sv).2,hv.e];exact⟨fun h=>((hw.e _ _).1 h.symm).symm,fun h=>((hw.e _ _).2 h.symm).symm⟩
def mkS {α:Type}(l:List α):Sl α:=⟨l.isEmpty,l⟩
def baI (x:Z5):Z5:=Z5.mk x.FName x.FType x.FHas x.FDefault (Sl.nil:Sl TDir)
def baF (f:Z4):Z4:=Z4.mk f.FName (mkS (f.FArgs.l.map baI)) f.FType (Sl.nil:Sl TDir)
def baM (m:Z6):Z6:=Z6.mk m.FName (Sl.nil:Sl TDir)
def baT (t:TDef):TDef:=TDef.mk t.FKind t.FName t.FImplements (Sl.nil:Sl TDir) (mkS (t.FFields.l.map baF)) (mkS (t.FMembers.l.map baM)) (mkS (t.FInputs.l.map baI))
theorem mkS_app {α:Type}{z:Nat}{s:List α}{x:α}(hz:z<=200) (h:s.length+1<=10000000):appC z (mkS s) (⟨false,[x]⟩:Sl α)=some (mkS (s++[x])):=by
 rw [appZ hz (by simp [mkS]; omega)];unfold mkS; simp
theorem baI_loop:∀(l s:List Z5),s.length+l.length<=5000000->Z113_q7 l (mkS s)=some (mkS (s++l.map baI))
 | [],s,_=>by rw [Z113_q7,List.map_nil,List.append_nil]
 | x::l,s,h=>by
  rw [List.length_cons] at h;rw [Z113_q7];simp only [Ab.on];rw [mkS_app (by omega) (by omega),oB,baI_loop l (s++[_]) (by simp; omega),List.append_assoc]; rfl
theorem baI_is {s:Sl Z5}(h:s.l.length<=1048576):Z113_q s=some (mkS (s.l.map baI)):=by
 unfold Z113_q;rw [show (Sl.nil:Sl Z5)=mkS [] from rfl,baI_loop _ _ (by simp; omega)];rfl
theorem baF_loop (h8:TDef) (k:Int) (n:Bs) (I:Sl Bs) (D:Sl TDir) (M:Sl Z6) (N:Sl Z5):∀(l s:List Z4),(∀f∈l,f.FArgs.l.length<=1048576)->s.length+l.length<=5000000 ->
  Z112_q47 h8 l (TDef.mk k n I D (mkS s) M N)=some (TDef.mk k n I D (mkS (s++l.map baF)) M N)
 | [],s,_,_=>by rw [Z112_q47,List.map_nil,List.append_nil]
 | x::l,s,hx,h=>by
  rw [List.length_cons] at h;rw [Z112_q47];simp only [Ab.on];rw [baI_is (hx x (.head _)),oB,mkS_app (by omega) (by omega),oB,baF_loop h8 k n I D M N l (s++[_]) (fun f hf=>hx f (.tail _ hf)) (by simp; omega),List.append_assoc]; rfl
theorem baM_loop (h8:TDef) (k:Int) (n:Bs) (I:Sl Bs) (D:Sl TDir) (F:Sl Z4) (N:Sl Z5):∀(l s:List Z6),s.length+l.length<=5000000 ->
  Z112_q34 h8 l (TDef.mk k n I D F (mkS s) N)=some (TDef.mk k n I D F (mkS (s++l.map baM)) N)
 | [],s,_=>by rw [Z112_q34,List.map_nil,List.append_nil]
 | x::l,s,h=>by
  rw [List.length_cons] at h;rw [Z112_q34];simp only [Ab.on];rw [mkS_app (by omega) (by omega),oB,baM_loop h8 k n I D F N l (s++[_]) (by simp; omega),List.append_assoc]; rfl
structure BOk (t:TDef):Prop where
 f:t.FFields.l.length<=1048576
 a:∀f∈t.FFields.l,f.FArgs.l.length<=1048576
 m:t.FMembers.l.length<=1048576
 i:t.FInputs.l.length<=1048576
theorem ba_loop:∀(l s:List TDef),(∀t∈l,BOk t)->s.length+l.length<=5000000->Z112_q8 l (TDoc.mk (mkS s))=some (TDoc.mk (mkS (s++l.map baT)))
 | [],s,_,_=>by rw [Z112_q8,List.map_nil,List.append_nil]
 | t::l,s,ht,h=>by
  have hb:=ht t (.head _);have h1:=hb.f; have h2:=hb.m;rw [List.length_cons] at h;rw [Z112_q8];simp only [Ab.on];rw [show (TDef.mk t.FKind t.FName t.FImplements (Sl.nil:Sl TDir) (Sl.nil:Sl Z4) (Sl.nil:Sl Z6) (Sl.nil:Sl Z5))=TDef.mk t.FKind t.FName t.FImplements (Sl.nil:Sl TDir) (mkS []) (mkS []) (Sl.nil:Sl Z5) from rfl,
   baF_loop t _ _ _ _ _ _ _ [] hb.a (by simp; omega),oB,baM_loop t _ _ _ _ _ _ _ [] (by simp; omega),oB,baI_is hb.i,oB]
  simp only [List.nil_append];show ((appC 144 (mkS s) _).bind _)=_;rw [mkS_app (by omega) (by omega),oB];show Z112_q8 l (TDoc.mk (mkS (s++[baT t])))=_;rw [ba_loop l (s++[baT t]) (fun t ht'=>ht t (.tail _ ht')) (by simp; omega),List.append_assoc]; rfl
theorem bare_is {d:TDoc}(h:d.FDefs.l.length<=1048576) (ht:∀t∈d.FDefs.l,BOk t):Z112_q d=some (TDoc.mk (mkS (d.FDefs.l.map baT))):=by
 unfold Z112_q;rw [show TDoc.zero=TDoc.mk (mkS []) from rfl,ba_loop _ _ ht (by simp; omega)];rfl
end Go.Proofs

namespace Go.Proofs
open Go Go.Ab
theorem idx_loop {α β γ:Type}{R:α->β->Prop}{A:List α}{mk:Sl β->γ}{q:List Int->γ->Option γ}(hnil:∀s,q [] (mk s)=some (mk s))
  (hcons:∀(j:Int) (L:List Int) (nl:Bool) (s:List β) (x:α),idxC A j=some x->x∈A->s.length<=5000000->∃b nl',R x b/\q (j::L) (mk ⟨nl,s⟩)=q L (mk ⟨nl',s++[b]⟩)) :
  ∀(L:List Int) (nl:Bool) (s:List β),(∀j∈L,∃k:Nat,j=(k:Int)/\k<A.length)->s.length+L.length<=5000000->∃r nl',q L (mk ⟨nl,s⟩)=some (mk ⟨nl',s++r⟩)/\All2 R (L.filterMap fun j=>A[j.toNat]?) r
 | [],nl,s,_,_=>⟨[],nl,by rw [hnil,List.append_nil],.nil⟩
 | j::L,nl,s,hj,hl=>by
  obtain⟨k,rfl,hk⟩:=hj j (.head _);rw [List.length_cons] at hl;have hx:A[((k:Nat):Int).toNat]?=some A[k]:=by rw [Int.toNat_natCast]; exact List.getElem?_eq_getElem hk
  obtain⟨b,nl1,hb,e⟩:=hcons (k:Int) L nl s A[k] (by unfold idxC; rw [if_pos (by omega)]; exact hx) (List.getElem_mem hk) (by omega);obtain⟨r,nl',e2,h2⟩:=idx_loop hnil hcons L nl1 (s++[b]) (fun i hi=>hj i (.tail _ hi)) (by simp; omega);refine⟨b::r,nl',by rw [e,e2,List.append_assoc]; rfl, ?_⟩;rw [List.filterMap_cons,hx];exact .cons hb h2
theorem nam_loop {α:Type}{key:α->Bs}{q:List α->Sl Bs->Option (Sl Bs)}(hnil:∀s,q [] s=some s) (hcons:∀x l nl s,s.length<=5000000->q (x::l) ⟨nl,s⟩=q l ⟨nl&&false,s++[key x]⟩) :
  ∀(l:List α) (nl:Bool) (s:List Bs),s.length+l.length<=5000000->∃nl',q l ⟨nl,s⟩=some ⟨nl',s++l.map key⟩
 | [],nl,s,_=>⟨nl,by rw [hnil,List.map_nil,List.append_nil]⟩
 | x::l,nl,s,h=>by
  rw [List.length_cons] at h;obtain⟨nl',e⟩:=nam_loop hnil hcons l (nl&&false) (s++[key x]) (by simp; omega);exact⟨nl',by rw [hcons x l nl s (by omega),e,List.append_assoc]; rfl⟩
theorem sort_loop {α β γ:Type}{key:α->Bs}{R:α->β->Prop}{A:List α}{mk:Sl β->γ}{q:List Int->γ->Option γ}(hA:A.length<=1000000) (hnil:∀s,q [] (mk s)=some (mk s))
  (hcons:∀(j:Int) (L:List Int) (nl:Bool) (s:List β) (x:α),idxC A j=some x->x∈A->s.length<=5000000->∃b nl',R x b/\q (j::L) (mk ⟨nl,s⟩)=q L (mk ⟨nl',s++[b]⟩)) :
  ∃r nl',q (ordO (A.map key) A.length) (mk ⟨true,[]⟩)=some (mk ⟨nl',r⟩)/\All2 R (srt key A) r:=by
 obtain⟨r,nl',e,h⟩:=idx_loop hnil hcons (ordO (A.map key) A.length) true [] (fun j hj=>ordO_mem hj) (by rw [ordO_len]; simp; omega);exact⟨r,nl',by rw [e]; simp,h⟩
theorem dirs_nil {s:Sl TDir}(h:s.l=[]):Z74_q s=some Sl.nil:=by
 unfold Z74_q; rw [h,Z74_q7]; rfl
structure RI (x x':Z5):Prop where
 n:x'.FName=x.FName
 t:x'.FType.FName=x.FType.FName/\x'.FType.FWraps.l=x.FType.FWraps.l
 h:x'.FHas=x.FHas
 d:Cp x.FDefault x'.FDefault
 z:x.FDefault.sz<=1048576
 e:x'.FDirs.l=[]
theorem ref_is {t:TRef}(h:t.FWraps.l.length<=1048576):∃t',Z79_q t=some t'/\t'.FName=t.FName/\t'.FWraps.l=t.FWraps.l:=by
 unfold Z79_q;rw [appZ (by omega) (by simp [TRef.FWraps,Sl.nil]; exact Nat.le_trans h (by omega)),oB];exact⟨_,rfl,rfl,by simp [TRef.FWraps,Sl.nil]⟩
structure IOb (x:Z5):Prop where
 z:x.FDefault.sz<=1048576
 w:x.FType.FWraps.l.length<=1048576
theorem inputs_names (l:List Z5) (h:l.length<=1000000):∃nl,Z76_q28 l (Sl.nil:Sl Bs)=some ⟨nl,l.map Z5.FName⟩:=by
 obtain⟨nl,e⟩:=nam_loop (key:=Z5.FName) (q:=Z76_q28) (fun s=>by rw [Z76_q28]) (fun x l nl s hs=>by
  rw [Z76_q28]; simp only [Ab.on]; rw [appZ (by omega) (by simp; omega),oB]; all_goals rfl) l true [] (by simp; omega)
 exact⟨nl,by rw [show (Sl.nil:Sl Bs)=⟨true,[]⟩ from rfl,e]; all_goals rfl⟩
theorem inputs_is {A:Sl Z5}(hl:A.l.length<=1000000) (hA:∀x∈A.l,IOb x/\x.FDirs.l=[]):∃r,Z76_q A=some r/\All2 RI (srt Z5.FName A.l) r.l:=by
 obtain⟨nl,e1⟩:=inputs_names A.l hl;obtain⟨nl2,e2⟩:=order_is (N:=⟨nl,A.l.map Z5.FName⟩) (by simpa using hl);obtain⟨r,nl3,e3,h3⟩:=sort_loop (key:=Z5.FName) (R:=RI) (A:=A.l) (mk:=id) (q:=Z76_q12 A) hl (fun s=>by rw [Z76_q12]; all_goals rfl) (fun j L nl s x hx hm hs=>by
  obtain⟨ob,hd⟩:=hA x hm;obtain⟨t',et,t1,t2⟩:=ref_is ob.w;obtain⟨v',ev,cv⟩:=rcopy ob.z;refine⟨Z5.mk x.FName t' x.FHas v' Sl.nil,nl&&false,⟨rfl,⟨t1,t2⟩,rfl,cv,ob.z,rfl⟩, ?_⟩;rw [Z76_q12];simp only [Ab.on,id];rw [hx,oB,et,oB,ev,oB,dirs_nil hd,oB,appZ (by omega) (by simp; omega),oB];rfl)
 unfold Z76_q;rw [e1];simp only [oB,Ab.on];rw [e2,oB];simp only [List.length_map];rw [show (Sl.nil:Sl Z5)=id ⟨true,[]⟩ from rfl,e3];exact⟨_,rfl,h3⟩
structure RF (x x':Z4):Prop where
 n:x'.FName=x.FName
 t:x'.FType.FName=x.FType.FName/\x'.FType.FWraps.l=x.FType.FWraps.l
 a:All2 RI (srt Z5.FName x.FArgs.l) x'.FArgs.l
 e:x'.FDirs.l=[]
structure FOc (x:Z4):Prop where
 w:x.FType.FWraps.l.length<=1048576
 l:x.FArgs.l.length<=1000000
 a:∀y∈x.FArgs.l,IOb y/\y.FDirs.l=[]
theorem fields_names (l:List Z4) (h:l.length<=1000000):∃nl,Z75_q28 l (Sl.nil:Sl Bs)=some ⟨nl,l.map Z4.FName⟩:=by
 obtain⟨nl,e⟩:=nam_loop (key:=Z4.FName) (q:=Z75_q28) (fun s=>by rw [Z75_q28]) (fun x l nl s hs=>by
  rw [Z75_q28]; simp only [Ab.on]; rw [appZ (by omega) (by simp; omega),oB]; all_goals rfl) l true [] (by simp; omega)
 exact⟨nl,by rw [show (Sl.nil:Sl Bs)=⟨true,[]⟩ from rfl,e]; all_goals rfl⟩
theorem fields_is {A:Sl Z4}(hl:A.l.length<=1000000) (hA:∀x∈A.l,FOc x/\x.FDirs.l=[]):∃r,Z75_q A=some r/\All2 RF (srt Z4.FName A.l) r.l:=by
 obtain⟨nl,e1⟩:=fields_names A.l hl;obtain⟨nl2,e2⟩:=order_is (N:=⟨nl,A.l.map Z4.FName⟩) (by simpa using hl);obtain⟨r,nl3,e3,h3⟩:=sort_loop (key:=Z4.FName) (R:=RF) (A:=A.l) (mk:=id) (q:=Z75_q12 A) hl (fun s=>by rw [Z75_q12]; all_goals rfl) (fun j L nl s x hx hm hs=>by
  obtain⟨ob,hd⟩:=hA x hm;obtain⟨t',et,t1,t2⟩:=ref_is ob.w;obtain⟨a',ea,ca⟩:=inputs_is ob.l ob.a;refine⟨Z4.mk x.FName a' t' Sl.nil,nl&&false,⟨rfl,⟨t1,t2⟩,ca,rfl⟩, ?_⟩;rw [Z75_q12];simp only [Ab.on,id];rw [hx,oB,ea,oB,et,oB,dirs_nil hd,oB,appZ (by omega) (by simp; omega),oB];rfl)
 unfold Z75_q;rw [e1];simp only [oB,Ab.on];rw [e2,oB];simp only [List.length_map];rw [show (Sl.nil:Sl Z4)=id ⟨true,[]⟩ from rfl,e3];exact⟨_,rfl,h3⟩
structure RM (x x':Z6):Prop where
 n:x'.FName=x.FName
 e:x'.FDirs.l=[]
theorem members_names (l:List Z6) (h:l.length<=1000000):∃nl,Z77_q27 l (Sl.nil:Sl Bs)=some ⟨nl,l.map Z6.FName⟩:=by
 obtain⟨nl,e⟩:=nam_loop (key:=Z6.FName) (q:=Z77_q27) (fun s=>by rw [Z77_q27]) (fun x l nl s hs=>by
  rw [Z77_q27]; simp only [Ab.on]; rw [appZ (by omega) (by simp; omega),oB]; all_goals rfl) l true [] (by simp; omega)
 exact⟨nl,by rw [show (Sl.nil:Sl Bs)=⟨true,[]⟩ from rfl,e]; all_goals rfl⟩
theorem members_is {A:Sl Z6}(hl:A.l.length<=1000000) (hA:∀x∈A.l,x.FDirs.l=[]):∃r,Z77_q A=some r/\All2 RM (srt Z6.FName A.l) r.l:=by
 obtain⟨nl,e1⟩:=members_names A.l hl;obtain⟨nl2,e2⟩:=order_is (N:=⟨nl,A.l.map Z6.FName⟩) (by simpa using hl);obtain⟨r,nl3,e3,h3⟩:=sort_loop (key:=Z6.FName) (R:=RM) (A:=A.l) (mk:=id) (q:=Z77_q12 A) hl (fun s=>by rw [Z77_q12]; all_goals rfl) (fun j L nl s x hx hm hs=>by
  refine⟨Z6.mk x.FName Sl.nil,nl&&false,⟨rfl,rfl⟩, ?_⟩;rw [Z77_q12];simp only [Ab.on,id];rw [hx,oB,oB,dirs_nil (hA x hm),oB,appZ (by omega) (by simp; omega),oB];rfl)
 unfold Z77_q;rw [e1];simp only [oB,Ab.on];rw [e2,oB];simp only [List.length_map];rw [show (Sl.nil:Sl Z6)=id ⟨true,[]⟩ from rfl,e3];exact⟨_,rfl,h3⟩
structure RD (x x':TDef):Prop where
 k:x'.FKind=x.FKind
 n:x'.FName=x.FName
 i:x'.FImplements.l=srt id x.FImplements.l
 e:x'.FDirs.l=[]
 f:All2 RF (srt Z4.FName x.FFields.l) x'.FFields.l
 m:All2 RM (srt Z6.FName x.FMembers.l) x'.FMembers.l
 p:All2 RI (srt Z5.FName x.FInputs.l) x'.FInputs.l
structure TOc (x:TDef):Prop where
 e:x.FDirs.l=[]
 i:x.FImplements.l.length<=1000000
 f:x.FFields.l.length<=1000000
 fa:∀y∈x.FFields.l,FOc y/\y.FDirs.l=[]
 m:x.FMembers.l.length<=1000000
 ma:∀y∈x.FMembers.l,y.FDirs.l=[]
 p:x.FInputs.l.length<=1000000
 pa:∀y∈x.FInputs.l,IOb y/\y.FDirs.l=[]
theorem all2_eq {α:Type}{l r:List α}(h:All2 (fun x y=>y=x) l r):r=l:=by
 induction h with
 | nil=>rfl
 | cons e _ ih=>rw [e,ih]
theorem faces_is {x:TDef}(h:x.FImplements.l.length<=1000000) (k:Int) (n:Bs) (D:Sl TDir) (F:Sl Z4) (M:Sl Z6) (N:Sl Z5) :
  ∃nl o,Z78_q x.FImplements=some o/\Z73_q37 x o.l (TDef.mk k n (Sl.nil:Sl Bs) D F M N)=some (TDef.mk k n ⟨nl,srt id x.FImplements.l⟩ D F M N):=by
 obtain⟨nl2,e2⟩:=order_is (N:=x.FImplements) h;obtain⟨r,nl3,e3,h3⟩:=sort_loop (key:=id) (R:=fun a b:Bs=>b=a) (A:=x.FImplements.l) (mk:=fun I=>TDef.mk k n I D F M N) (q:=Z73_q37 x) h (fun s=>by rw [Z73_q37]) (fun j L nl s y hy hm hs=>by
  refine⟨y,nl&&false,rfl, ?_⟩;rw [Z73_q37];simp only [Ab.on];rw [hy,oB];show ((appC 16 (⟨nl,s⟩:Sl Bs) _).bind _)=_;rw [appZ (by omega) (by simp; omega),oB];rfl)
 rw [all2_eq h3,List.map_id] at e3;exact⟨nl3,_,e2,e3⟩
theorem sort_names (l:List TDef) (h:l.length<=1000000):∃nl,Z73_q49 l (Sl.nil:Sl Bs)=some ⟨nl,l.map TDef.FName⟩:=by
 obtain⟨nl,e⟩:=nam_loop (key:=TDef.FName) (q:=Z73_q49) (fun s=>by rw [Z73_q49]) (fun x l nl s hs=>by
  rw [Z73_q49]; simp only [Ab.on]; rw [appZ (by omega) (by simp; omega),oB]; all_goals rfl) l true [] (by simp; omega)
 exact⟨nl,by rw [show (Sl.nil:Sl Bs)=⟨true,[]⟩ from rfl,e]; all_goals rfl⟩
theorem sort_is {d:TDoc}(hl:d.FDefs.l.length<=1000000) (hA:∀x∈d.FDefs.l,TOc x):∃r,Z73_q d=some r/\All2 RD (srt TDef.FName d.FDefs.l) r.FDefs.l:=by
 obtain⟨nl,e1⟩:=sort_names d.FDefs.l hl;obtain⟨nl2,e2⟩:=order_is (N:=⟨nl,d.FDefs.l.map TDef.FName⟩) (by simpa using hl);obtain⟨r,nl3,e3,h3⟩:=sort_loop (key:=TDef.FName) (R:=RD) (A:=d.FDefs.l) (mk:=TDoc.mk) (q:=Z73_q13 d) hl (fun s=>by rw [Z73_q13]) (fun j L nl s x hx hm hs=>by
  have ob:=hA x hm;obtain⟨f',ef,cf⟩:=fields_is ob.f ob.fa;obtain⟨m',em,cm⟩:=members_is ob.m ob.ma;obtain⟨p',ep,cp⟩:=inputs_is ob.p ob.pa;obtain⟨ni,o,eo,ei⟩:=faces_is ob.i x.FKind x.FName (Sl.nil:Sl TDir) f' m' p';refine⟨TDef.mk x.FKind x.FName ⟨ni,srt id x.FImplements.l⟩ Sl.nil f' m' p',nl&&false,⟨rfl,rfl,rfl,rfl,cf,cm,cp⟩, ?_⟩;rw [Z73_q13];simp only [Ab.on];rw [hx,oB,dirs_nil ob.e,oB,ef,oB,em,oB,ep,oB,eo,oB,ei,oB]
  show ((appC 144 (⟨nl,s⟩:Sl TDef) _).bind _)=_;rw [appZ (by omega) (by simp; omega),oB];rfl)
 unfold Z73_q;rw [e1];simp only [oB,Ab.on];rw [e2,oB];simp only [List.length_map];rw [show TDoc.zero=TDoc.mk ⟨true,[]⟩ from rfl,e3];exact⟨_,rfl,h3⟩
end Go.Proofs

namespace Go.Proofs
open Go Go.Ab
theorem fa2_len {α:Type}{S:α->α->Bool}:∀{X Y:List α},fa2 S X Y=true->X.length=Y.length
 | [],[],_=>rfl
 | [],_::_,h=>by cases h
 | _::_,[],h=>by cases h
 | x::X,y::Y,h=>by
  rw [fa2,Bool.and_eq_true] at h;rw [List.length_cons,List.length_cons,fa2_len h.2]
theorem all2_len {α β:Type}{R:α->β->Prop}:∀{X:List α}{Y:List β},All2 R X Y->X.length=Y.length
 | _,_,.nil=>rfl
 | _,_,.cons _ h=>by rw [List.length_cons,List.length_cons,all2_len h]
theorem same_loop {α β:Type}{R:α->β->Prop}{S:α->α->Bool}{B:List β}{q:List β->Nat->Option (Unit ⊕ Bool)}(hnil:∀i,q [] i=some (Sum.inl ()))
  (hcons:∀x' l i y' x y,B[i]?=some y'->R x x'->R y y'->q (x'::l) i=bif !S x y then some (Sum.inr false) else q l (i+1)) :
  ∀{X:List α}{A:List β}{Y:List α}(i:Nat),All2 R X A->All2 R Y (B.drop i)->X.length=Y.length->q A i=some (bif fa2 S X Y then Sum.inl () else Sum.inr false)
 | [],[],Y,i,.nil,h2,hl=>by
  cases Y with
  | nil=>rw [hnil]; rfl
  | cons y Y=>cases hl
 | x::X,x'::A,Y,i,.cons hx h1,h2,hl=>by
  cases hd:B.drop i with
  | nil =>
   rw [hd] at h2;have:=all2_len h2;rw [this] at hl; cases hl
  | cons y' B' =>
   rw [hd] at h2;cases h2 with
   | cons hy h2 =>
    rename_i y Y
    obtain⟨g1,g2⟩:=drop_hd hd;rw [hcons x' A i y' x y g1 hx hy,fa2];cases S x y
    ·rfl
    ·rw [Bool.not_true,cond_false,Bool.true_and];exact same_loop hnil hcons (i+1) h1 (by rw [g2]; exact h2) (by simpa using hl)
theorem rsameAux_n (a1:Sl Int):∀(l:List Int) (s:Nat),Z58_q11 a1 l s=Z123_q12 a1 l s
 | [],_=>rfl
 | a::r,s=>by
  rw [Z58_q11,Z123_q12];simp only [Ab.on,rsameAux_n a1 r (s+1)]
theorem rsameR_n (a b:TRef):Z56_q a b=some (saV a b):=by
 have h:=same_is a b;unfold Z156_q at h;unfold Z56_q;rw [<- h]
 congr 1
 unfold Z58_q Z123_q;rw [rsameAux_n];all_goals rfl
theorem same_wrap {α β:Type}{R:α->β->Prop}{S:α->α->Bool}{X Y:List α}{A B:List β}{q:List β->Nat->Option (Unit ⊕ Bool)}(hnil:∀i,q [] i=some (Sum.inl ()))
  (hcons:∀x' l i y' x y,B[i]?=some y'->R x x'->R y y'->q (x'::l) i=bif !S x y then some (Sum.inr false) else q l (i+1)) (h1:All2 R X A) (h2:All2 R Y B){k:Option Bool} :
  (bif (!decide (((A.length:Nat):Int)=((B.length:Nat):Int))) then some false else(Option.bind (q A 0) fun o=>match o with|Sum.inl _=>k|Sum.inr e=>some e))=bif fa2 S X Y then k else some false:=by
 have l1:=all2_len h1; have l2:=all2_len h2;by_cases h:A.length=B.length
 ·rw [dT (by omega),Bool.not_true,cond_false,same_loop hnil hcons 0 h1 h2 (by omega)];cases fa2 S X Y<;>rfl
 ·rw [dF (by omega),Bool.not_false,cond_true];cases e:fa2 S X Y
  ·rfl
  ·have:=fa2_len e; omega
theorem sameDirs_nil {a b:Sl TDir}(ha:a.l=[]) (hb:b.l=[]):Z72_q a b=some true:=by
 unfold Z72_q;rw [ha,hb,Z72_q11]; rfl
theorem rsaV {t u t' u':TRef}(ht:t'.FName=t.FName/\t'.FWraps.l=t.FWraps.l) (hu:u'.FName=u.FName/\u'.FWraps.l=u.FWraps.l):saV t' u'=saV t u:=by
 unfold saV; rw [ht.1,ht.2,hu.1,hu.2]
def SI (x y:Z5):Bool:=x.FName==y.FName&&(saV x.FType y.FType&&(x.FHas==y.FHas&&vsX x.FDefault y.FDefault))
theorem sameInputs_is {X Y:List Z5}{A B:Sl Z5}(h1:All2 RI X A.l) (h2:All2 RI Y B.l):Z80_q A B=some (fa2 SI X Y):=by
 unfold Z80_q;simp only [Ab.on];refine(same_wrap (S:=SI) (k:=some true) (fun i=>by rw [Z80_q11]) (fun x' l i y' x y hy rx ry=>by
  rw [Z80_q11];simp only [Ab.on];rw [hy,oB,rsameR_n,rsaV rx.t ry.t,rx.n,ry.n,rx.h,ry.h];unfold SI;cases x.FName==y.FName
  ·rfl
  ·cases saV x.FType y.FType
   ·rfl
   ·cases x.FHas==y.FHas
    ·rfl
    ·rw [rsame_is (by rw [rx.d.s]; exact rx.z),rx.d.same ry.d rx.z,sameDirs_nil rx.e ry.e];cases vsX x.FDefault y.FDefault<;>rfl) h1 h2).trans ?_
 cases fa2 SI X Y<;>rfl
def SF (x y:Z4):Bool:=x.FName==y.FName&&(saV x.FType y.FType&&fa2 SI (srt Z5.FName x.FArgs.l) (srt Z5.FName y.FArgs.l))
def SM (x y:Z6):Bool:=x.FName==y.FName
def SD (x y:TDef):Bool:=decide (x.FKind=y.FKind)&&(x.FName==y.FName&&(fa2 (fun a b:Bs=>a==b) (srt id x.FImplements.l) (srt id y.FImplements.l) &&
 (fa2 SF (srt Z4.FName x.FFields.l) (srt Z4.FName y.FFields.l)&&(fa2 SM (srt Z6.FName x.FMembers.l) (srt Z6.FName y.FMembers.l)&&fa2 SI (srt Z5.FName x.FInputs.l) (srt Z5.FName y.FInputs.l)))))
theorem all2_refl {α:Type}:∀l:List α,All2 (fun x y=>y=x) l l
 | []=>.nil
 | _::l=>.cons rfl (all2_refl l)
theorem texts_is (a b:Sl Bs):Z81_q a b=some (fa2 (fun a b:Bs=>a==b) a.l b.l):=by
 unfold Z81_q;simp only [Ab.on];refine(same_wrap (S:=fun a b:Bs=>a==b) (k:=some true) (R:=fun x y=>y=x) (fun i=>by rw [Z81_q11]) (fun x' l i y' x y hy rx ry=>by
  rw [Z81_q11];simp only [Ab.on];rw [hy,oB,rx,ry]) (all2_refl a.l) (all2_refl b.l)).trans ?_
 cases fa2 (fun a b:Bs=>a==b) a.l b.l<;>rfl
theorem sameDef_is {t u t' u':TDef}(ht:RD t t') (hu:RD u u'):Z71_q t' u'=some (SD t u):=by
 unfold Z71_q;simp only [Ab.on];rw [texts_is,sameDirs_nil ht.e hu.e,ht.k,ht.n,hu.k,hu.n,ht.i,hu.i];unfold SD;cases decide (t.FKind=u.FKind)
 ·rfl
 ·cases t.FName==u.FName
  ·rfl
  ·cases fa2 (fun a b:Bs=>a==b) (srt id t.FImplements.l) (srt id u.FImplements.l)
   ·rfl
   ·simp only [Bool.not_true,Bool.not_false,Bool.false_or,Bool.or_false,Bool.true_and,guardO,if_true,oB];have lf1:=all2_len ht.f; have lf2:=all2_len hu.f; have lm1:=all2_len ht.m; have lm2:=all2_len hu.m;have KF:=same_wrap (S:=SF) (q:=Z71_q29 u') (B:=u'.FFields.l) (k:=(Option.bind (Z71_q13 u' t'.FMembers.l 0) fun o13=>match o13 with|Sum.inl _=>((Z80_q t'.FInputs u'.FInputs).bind fun x11=>some x11)|Sum.inr e13=>some e13)) (fun i=>by rw [Z71_q29]) (fun x' l i y' x y hy rx ry=>by
     rw [Z71_q29];simp only [Ab.on];rw [hy,oB,rsameR_n,rsaV rx.t ry.t,rx.n,ry.n];unfold SF;cases x.FName==y.FName
     ·rfl
     ·cases saV x.FType y.FType
      ·rfl
      ·rw [sameDirs_nil rx.e ry.e,sameInputs_is rx.a ry.a];cases fa2 SI (srt Z5.FName x.FArgs.l) (srt Z5.FName y.FArgs.l)<;>rfl) ht.f hu.f
    have KM:=same_wrap (S:=SM) (q:=Z71_q13 u') (B:=u'.FMembers.l) (k:=((Z80_q t'.FInputs u'.FInputs).bind fun x11=>some x11)) (fun i=>by rw [Z71_q13]) (fun x' l i y' x y hy rx ry=>by
     rw [Z71_q13];simp only [Ab.on];rw [hy,oB,rx.n,ry.n];unfold SM;cases x.FName==y.FName
     ·rfl
     ·simp only [Bool.not_true,Bool.not_false,cond_true,guardO,if_true,oB];rw [sameDirs_nil rx.e ry.e]; rfl) ht.m hu.m
    have KI:=sameInputs_is ht.p hu.p;by_cases hf:t'.FFields.l.length=u'.FFields.l.length
    ·by_cases hm:t'.FMembers.l.length=u'.FMembers.l.length
     ·rw [dT (by omega:((t'.FFields.l.length:Nat):Int)=((u'.FFields.l.length:Nat):Int))] at KF ⊢;rw [dT (by omega:((t'.FMembers.l.length:Nat):Int)=((u'.FMembers.l.length:Nat):Int))] at KM ⊢;simp only [Bool.not_true,Bool.false_or,cond_false] at KF KM ⊢;refine KF.trans ?_;cases fa2 SF (srt Z4.FName t.FFields.l) (srt Z4.FName u.FFields.l)
      ·rfl
      ·rw [cond_true];refine Eq.trans KM ?_;rw [KI];cases fa2 SM (srt Z6.FName t.FMembers.l) (srt Z6.FName u.FMembers.l)<;>rfl
     ·rw [dF (by omega:¬((t'.FMembers.l.length:Nat):Int)=((u'.FMembers.l.length:Nat):Int))];rw [Bool.not_false,Bool.or_true,cond_true];cases e:fa2 SM (srt Z6.FName t.FMembers.l) (srt Z6.FName u.FMembers.l)
      ·rw [Bool.false_and,Bool.and_false]
      ·have:=fa2_len e; omega
    ·rw [dF (by omega:¬((t'.FFields.l.length:Nat):Int)=((u'.FFields.l.length:Nat):Int))];rw [Bool.not_false,Bool.true_or,cond_true];cases e:fa2 SF (srt Z4.FName t.FFields.l) (srt Z4.FName u.FFields.l)
     ·rw [Bool.false_and]
     ·have:=fa2_len e; omega
theorem same_docs {X Y:List TDef}{a b:TDoc}(h1:All2 RD X a.FDefs.l) (h2:All2 RD Y b.FDefs.l):Z70_q a b=some (fa2 SD X Y):=by
 unfold Z70_q;simp only [Ab.on];refine(same_wrap (S:=SD) (k:=some true) (fun i=>by rw [Z70_q11]) (fun x' l i y' x y hy rx ry=>by
  rw [Z70_q11];simp only [Ab.on];rw [hy,oB,sameDef_is rx ry,oB]) h1 h2).trans ?_
 cases fa2 SD X Y<;>rfl
end Go.Proofs

namespace Go.Proofs
open Go Go.Ab
theorem Pf.any (o:Option (Sl Z3)):Pf o [] True:=fun r _=>⟨fun h=>absurd rfl h,fun _=>trivial⟩
theorem mem26 (a:TDef) (x:Z6):∀(n k:Nat) (b:Bool) (r:Bool),Z97_q26 a x n k b=some r->r=false->b=false/\∀m y,k<=m->m<k+n->a.FMembers.l[m]?=some y->y.FName≠x.FName
 | 0,k,b,r,h,hr=>by rw [Z97_q26] at h; cases h; exact⟨hr,fun m y h1 h2=>by omega⟩
 | n+1,k,b,r,h,hr=>by
  rw [Z97_q26] at h;rcases guardE h with ⟨_,v,e,h⟩|⟨hc,h⟩
  ·obtain⟨h1,h2⟩:=mem26 a x n (k+1) _ r h hr;rw [Bool.or_eq_false_iff] at h1;refine⟨h1.1,fun m y hm hm2 hy=>?_⟩;rcases Nat.lt_or_ge k m with c|c
   ·exact h2 m y c (by omega) hy
   ·obtain rfl:m=k:=by omega
    rw [e] at hy;cases hy;exact beq_eq_false_iff_ne.1 h1.2
  ·have:=(mem26 a x n (k+1) _ r h hr).1;rw [Bool.or_eq_false_iff] at this;rw [this.1] at hc;cases hc
theorem members_pf (t:TDef):∀(l:List Z6) (i:Nat) (s:Sl Z3),t.FMembers.l.drop i=l->Pf (Z97_q7 t l i s) s.l (∀j,i<=j->Gn Z6.FName t.FMembers.l j)
 | [],i,s,h=>by
  rw [Z97_q7];exact Pf.pure fun j hj x hx=>(by rw [drop_nil_get h hj] at hx; cases hx)
 | a::r,i,s,h=>by
  obtain⟨h1,h2⟩:=drop_hd h;rw [Z97_q7];simp only [Ab.on];refine Pf.skip fun b hb=>Pf.skip fun u1 _=>Pf.skip fun u2 _=>?_;refine(Pf.appB (Q:=∀j,i+1<=j->Gn Z6.FName t.FMembers.l j) s (names_pf a.FName _ b u2) fun u=>members_pf t r (i+1) u h2).imp fun⟨z1,z2⟩ j hj=>?_;rcases Nat.lt_or_ge i j with c|c
  ·exact z2 j c
  ·obtain rfl:j=i:=by omega
   intro x hx m y hm hy;rw [h1] at hx;cases hx;exact(mem26 t a j 0 false b hb z1).2 m y (Nat.zero_le _) (by omega) hy
theorem members_dst (t:TDef):Pf (Z97_q t) [] (Dst Z6.FName t.FMembers.l):=by
 unfold Z97_q;simp only [Ab.on];exact(members_pf t _ 0 Sl.nil rfl).id.imp fun h=>dst_of fun j=>h j (Nat.zero_le j)
theorem checkM_pf (d:TDoc):∀(l:List TDef) (i:Nat) (s:Sl Z3),d.FDefs.l.drop i=l->Pf (Z82_q14 d l i s) s.l (∀x∈l,x.FKind=4->Dst Z6.FName x.FMembers.l)
 | [],i,s,h=>by
  rw [Z82_q14];exact Pf.pure fun x hx=>(by cases hx)
 | a::r,i,s,h=>by
  obtain⟨h1,h2⟩:=drop_hd h;rw [Z82_q14];simp only [Ab.on];refine(Pf.appB (Q:=(a.FKind=4->Dst Z6.FName a.FMembers.l)/\∀x∈r,x.FKind=4->Dst Z6.FName x.FMembers.l) s (whole_pf d i) fun u=>?_).imp fun⟨z1,z2,z3⟩ x hx=>?_
  ·refine Pf.bind ?_ fun u=>checkM_pf d r (i+1) u h2;have e12:(bif (decide (a.FKind=(1:Int))) then((decide (a.FKind=(1:Int)))) else((decide (a.FKind=(2:Int)))))=decide (a.FKind=1\/a.FKind=2):=by
    by_cases c1:a.FKind=1<;>by_cases c2:a.FKind=2<;>simp [c1,c2]
   rw [e12];by_cases c12:a.FKind=1\/a.FKind=2
   ·rw [dT c12,cond_true];have:=(Pf.app u (Pf.any (Z93_q d a))).id;rw [Option.bind_assoc] at this;exact this.imp fun _ h4=>by omega
   ·rw [dF c12,cond_false];by_cases c4:a.FKind=4
    ·rw [dT c4,cond_true];have:=(Pf.app u (members_dst a)).id;rw [Option.bind_assoc] at this;exact this.imp fun h _=>h
    ·rw [dF c4,cond_false];by_cases c5:a.FKind=5
     ·rw [dT c5,cond_true];refine Pf.skip fun t _=>?_;have:=(Pf.app u (Pf.any (Z95_q d a.FInputs t []))).id;rw [Option.bind_assoc] at this;exact this.imp fun _ h4=>absurd h4 c4
     ·rw [dF c5,cond_false];exact Pf.pure fun h4=>absurd h4 c4
  ·rcases List.mem_cons.1 hx with rfl|hx
   ·exact z2
   ·exact z3 x hx
theorem checkM_dst {d:TDoc}{b:Bool}{r:Sl Z3}(h:Z82_q d b=some r) (hr:r.l=[]):∀t∈d.FDefs.l,t.FKind=4->Dst Z6.FName t.FMembers.l:=by
 have h2:Pf (Z82_q d b) [] (∀t∈d.FDefs.l,t.FKind=4->Dst Z6.FName t.FMembers.l):=by
  unfold Z82_q;simp only [Ab.on];refine(Pf.bind (Q:=True) (checkM_pf d d.FDefs.l 0 Sl.nil rfl) fun u=>?_).imp And.left;refine Pf.id ?_;generalize (b&&(!(Z84_q d ([81,117,101,114,121]:Bs)).2))=c;cases c
  ·exact Pf.pure trivial
  ·exact(Pf.add _ _ _ _).id
 exact(h2 r h).2 hr
theorem has5_any (n:Bs):∀l:List Bs,(match Z107_q5 n l with|.inl _=>false|.inr e=>e)=l.any fun y=>y==n
 | []=>rfl
 | a::r=>by
  rw [Z107_q5,List.any_cons];simp only [Ab.on];cases a==n
  ·exact has5_any n r
  ·rfl
theorem has_any (s:Sl Bs) (n:Bs):Z107_q s n=s.l.any fun y=>y==n:=by
 rw [<- has5_any]; unfold Z107_q; simp only [Ab.on];all_goals (cases Z107_q5 n s.l<;>rfl)
theorem member5_any (n:Bs):∀l:List Z6,(match Z109_q5 n l with|.inl _=>false|.inr e=>e)=l.any fun y=>y.FName==n
 | []=>rfl
 | a::r=>by
  rw [Z109_q5,List.any_cons];simp only [Ab.on];cases a.FName==n
  ·exact member5_any n r
  ·rfl
theorem member_any (t:TDef) (n:Bs):Z109_q t n=t.FMembers.l.any fun y=>y.FName==n:=by
 rw [<- member5_any]; unfold Z109_q; simp only [Ab.on];all_goals (cases Z109_q5 n t.FMembers.l<;>rfl)
theorem obj30_pf (d:TDoc) (t:TDef):∀(l:List Z4) (s:Sl Z3),Pf (Z110_q30 d t l s) s.l True
 | [],s=>by rw [Z110_q30]; exact Pf.pure trivial
 | a::r,s=>by
  rw [Z110_q30];simp only [Ab.on];exact(Pf.appB (P:=True) (Q:=True) s (Pf.any _) fun u=>obj30_pf d t r u).imp fun _=>trivial
theorem obj_pf (d:TDoc) (t:TDef):∀(l:List Bs) (i:Nat) (s:Sl Z3),t.FImplements.l.drop i=l->Pf (Z110_q7 d t l i s) s.l (∀j,i<=j->Gn id t.FImplements.l j)
 | [],i,s,h=>by
  rw [Z110_q7];exact Pf.pure fun j hj x hx=>(by rw [drop_nil_get h hj] at hx; cases hx)
 | a::r,i,s,h=>by
  obtain⟨h1,h2⟩:=drop_hd h;rw [Z110_q7];simp only [Ab.on];refine(Pf.bind (P:=Gn id t.FImplements.l i) (Q:=∀j,i+1<=j->Gn id t.FImplements.l j) ?_ fun u=>obj_pf d t r (i+1) u h2).imp fun⟨z1,z2⟩ j hj=>?_
  ·by_cases hk:Z108_q d a 2=0
   ·rw [hk];simp only [decide_true,cond_true,Bool.true_and,has_any];cases ha:(t.FImplements.l.take i).any fun y=>y==a
    ·simp only [cond_false,decide_true,Bool.not_true];exact(obj30_pf d t _ s).id.imp fun _=>gn_any fun x hx=>by rw [h1] at hx; cases hx; exact ha
    ·simp only [cond_true];exact(Pf.add _ _ _ _).id
   ·rw [dF hk];simp only [cond_false,Bool.false_and];rw [dF hk,Bool.not_false,cond_true];exact(Pf.add _ _ _ _).id
  ·rcases Nat.lt_or_ge i j with c|c
   ·exact z2 j c
   ·obtain rfl:j=i:=by omega
    exact z1
theorem object_dst (d:TDoc) (t:TDef):Pf (Z110_q d t) [] (Dst id t.FImplements.l):=by
 unfold Z110_q;simp only [Ab.on];exact(obj_pf d t _ 0 Sl.nil rfl).id.imp fun h=>dst_of fun j=>h j (Nat.zero_le j)
theorem uni_pf (d:TDoc) (t:TDef):∀(l:List Z6) (i:Nat) (s:Sl Z3),t.FMembers.l.drop i=l->Pf (Z111_q7 d t l i s) s.l (∀j,i<=j->Gn Z6.FName t.FMembers.l j)
 | [],i,s,h=>by
  rw [Z111_q7];exact Pf.pure fun j hj x hx=>(by rw [drop_nil_get h hj] at hx; cases hx)
 | a::r,i,s,h=>by
  obtain⟨h1,h2⟩:=drop_hd h;rw [Z111_q7];simp only [Ab.on];refine(Pf.bind (P:=Gn Z6.FName t.FMembers.l i) (Q:=∀j,i+1<=j->Gn Z6.FName t.FMembers.l j) ?_ fun u=>uni_pf d t r (i+1) u h2).imp fun⟨z1,z2⟩ j hj=>?_
  ·by_cases hk:Z108_q d a.FName 1=0
   ·rw [hk];simp only [decide_true,cond_true,Bool.true_and,member_any];show Pf (bif !decide ((bif ((t.FMembers.l.take i).any fun y=>y.FName==a.FName) then(7:Int) else 0)=0) then _ else _) _ _;cases ha:(t.FMembers.l.take i).any fun y=>y.FName==a.FName
    ·simp only [cond_false,decide_true,Bool.not_true];exact Pf.pure (gn_any fun x hx=>by rw [h1] at hx; cases hx; exact ha)
    ·simp only [cond_true];exact Pf.skip fun _ _=>Pf.skip fun _ _=>(Pf.add _ _ _ _).id
   ·rw [dF hk];simp only [cond_false,Bool.false_and];rw [dF hk,Bool.not_false,cond_true];exact Pf.skip fun _ _=>Pf.skip fun _ _=>(Pf.add _ _ _ _).id
  ·rcases Nat.lt_or_ge i j with c|c
   ·exact z2 j c
   ·obtain rfl:j=i:=by omega
    exact z1
theorem union_dst (d:TDoc) (t:TDef):Pf (Z111_q d t) [] (Dst Z6.FName t.FMembers.l):=by
 unfold Z111_q;simp only [Ab.on];exact(uni_pf d t _ 0 Sl.nil rfl).id.imp fun h=>dst_of fun j=>h j (Nat.zero_le j)
def FaceD (t:TDef):Prop:=(t.FKind=1->Dst id t.FImplements.l)/\(t.FKind=3->Dst Z6.FName t.FMembers.l)
theorem faces_pf (d:TDoc):∀(l:List TDef) (s:Sl Z3),Pf (Z101_q7 d l s) s.l (∀t∈l,FaceD t)
 | [],s=>by rw [Z101_q7]; exact Pf.pure fun t ht=>(by cases ht)
 | a::r,s=>by
  rw [Z101_q7];simp only [Ab.on];refine(Pf.bind (P:=FaceD a) (Q:=∀t∈r,FaceD t) ?_ fun u=>faces_pf d r u).imp fun⟨z1,z2⟩ t ht=>?_
  ·by_cases c1:a.FKind=1
   ·rw [dT c1,cond_true];have:=(Pf.app s (object_dst d a)).id;rw [Option.bind_assoc] at this;exact this.imp fun h=>⟨fun _=>h,fun h3=>by omega⟩
   ·rw [dF c1,cond_false];by_cases c3:a.FKind=3
    ·rw [dT c3,cond_true];have:=(Pf.app s (union_dst d a)).id;rw [Option.bind_assoc] at this;exact this.imp fun h=>⟨fun h1=>absurd h1 c1,fun _=>h⟩
    ·rw [dF c3,cond_false];exact Pf.pure ⟨fun h1=>absurd h1 c1,fun h3=>absurd h3 c3⟩
  ·rcases List.mem_cons.1 ht with rfl|ht
   ·exact z1
   ·exact z2 t ht
theorem faces_dst {d:TDoc}{r:Sl Z3}(h:Z101_q d=some r) (hr:r.l=[]):∀t∈d.FDefs.l,FaceD t:=by
 have h2:Pf (Z101_q d) [] (∀t∈d.FDefs.l,FaceD t):=by
  unfold Z101_q;simp only [Ab.on];exact(faces_pf d d.FDefs.l Sl.nil).id
 exact(h2 r h).2 hr
end Go.Proofs

namespace Go.Proofs
open Go Go.Ab
theorem fa2_map {α β:Type}{S:β->β->Bool}(f:α->β):∀X Y:List α,fa2 S (X.map f) (Y.map f)=fa2 (fun x y=>S (f x) (f y)) X Y
 | [],[]=>rfl
 | [],_::_=>rfl
 | _::_,[]=>rfl
 | x::X,y::Y=>by rw [List.map_cons,List.map_cons,fa2,fa2,fa2_map f X Y]
theorem fa2_congr {α:Type}{S S':α->α->Bool}(h:∀x y,S x y=S' x y) (X Y:List α):fa2 S X Y=fa2 S' X Y:=by
 rw [show S=S' from funext fun x=>funext (h x)]
theorem SI_ba (X Y:List Z5):fa2 SI (srt Z5.FName (X.map baI)) (srt Z5.FName (Y.map baI))=fa2 SI (srt Z5.FName X) (srt Z5.FName Y):=by
 rw [srt_map (k:=Z5.FName) baI (fun _=>rfl),srt_map (k:=Z5.FName) baI (fun _=>rfl),fa2_map]; rfl
theorem SF_ba (x y:Z4):SF (baF x) (baF y)=SF x y:=by
 unfold SF;show (x.FName==y.FName&&(saV x.FType y.FType&&fa2 SI (srt Z5.FName (x.FArgs.l.map baI)) (srt Z5.FName (y.FArgs.l.map baI))))=_;rw [SI_ba]
theorem SD_ba (x y:TDef):SD (baT x) (baT y)=SD x y:=by
 unfold SD;show (decide (x.FKind=y.FKind)&&(x.FName==y.FName&&(fa2 (fun a b:Bs=>a==b) (srt id x.FImplements.l) (srt id y.FImplements.l)&&(fa2 SF (srt Z4.FName (x.FFields.l.map baF)) (srt Z4.FName (y.FFields.l.map baF))&&(fa2 SM (srt Z6.FName (x.FMembers.l.map baM)) (srt Z6.FName (y.FMembers.l.map baM))&&fa2 SI (srt Z5.FName (x.FInputs.l.map baI)) (srt Z5.FName (y.FInputs.l.map baI)))))))=_;rw [SI_ba,srt_map (k:=Z4.FName) baF (fun _=>rfl),srt_map (k:=Z4.FName) baF (fun _=>rfl),fa2_map,fa2_congr SF_ba,srt_map (k:=Z6.FName) baM (fun _=>rfl),srt_map (k:=Z6.FName) baM (fun _=>rfl),fa2_map]; rfl
theorem SDs_ba (A B:List TDef):fa2 SD (srt TDef.FName (A.map baT)) (srt TDef.FName (B.map baT))=fa2 SD (srt TDef.FName A) (srt TDef.FName B):=by
 rw [srt_map (k:=TDef.FName) baT (fun _=>rfl),srt_map (k:=TDef.FName) baT (fun _=>rfl),fa2_map,fa2_congr SD_ba]
def RtN (x:Z5):Prop:=x.FHas=false->Z67_q x.FDefault=true
theorem null_same {v w:Z7}(hv:Z67_q v=true) (hw:Z67_q w=true) (sv:v.sz<=1048576):vsX v w=true:=by
 rw [(vsame sv).2];unfold Z67_q at hv hw;simp only [Bool.and_eq_true,decide_eq_true_eq,beq_iff_eq] at hv hw;obtain⟨m,hm⟩:∃m,F0=m+1:=⟨4611686018427387903,by rw [F0_eq]⟩;rw [hm,EqV];exact⟨by omega,by omega,by rw [hv.1.1.2,hw.1.1.2],by omega,fun j _ hj=>by omega⟩
theorem inW_nil {n:Bs}{K:Z1}{p:Bs->Bs×Bs}{x y:Z5}(sx:x.FDefault.sz<=1048576) (hx:RtN x) (hy:RtN y) (e:y.FName=x.FName):inW n K p x y=[]↔SI x y=true:=by
 unfold inW SI;rw [e,beq_self_eq_true,Bool.true_and];cases hs:saV x.FType y.FType
 ·simp
 ·cases h1:x.FHas<;>cases h2:y.FHas
  ·simp [null_same (hx h1) (hy h2) sx]
  ·simp
  ·simp
  ·cases vsX x.FDefault y.FDefault<;>simp
theorem inX_nil {n:Bs}{K:Z1}{p:Bs->Bs×Bs}{A B:List Z5}(dA:Dst Z5.FName A) (dB:Dst Z5.FName B) (hA:∀x∈A,x.FDefault.sz<=1048576/\RtN x) (hB:∀x∈B,RtN x) :
  inX n K p A B=[]↔fa2 SI (srt Z5.FName A) (srt Z5.FName B)=true:=by
 unfold inX;rw [dif_nil (fun x=>by unfold inG; simp) (fun x=>by unfold inN; simp) dB,fa2_srt (fun x _ y _ h=>by unfold SI at h; simp at h; exact h.1) dA dB];exact Mt.congr fun x hx y hy e=>inW_nil (hA x hx).1 (hA x hx).2 (hB y hy) e
structure FOn (f:Z4):Prop where
 d:Dst Z5.FName f.FArgs.l
 r:∀x∈f.FArgs.l,x.FDefault.sz<=1048576/\RtN x
theorem fdW_nil {n:Bs}{x y:Z4}(hx:FOn x) (hy:FOn y) (e:y.FName=x.FName):fdW n x y=[]↔SF x y=true:=by
 unfold fdW SF;rw [e,beq_self_eq_true,Bool.true_and,List.append_eq_nil_iff,inX_nil hx.d hy.d hx.r (fun z hz=>(hy.r z hz).2)];cases saV x.FType y.FType<;>simp
theorem fdX_nil {n:Bs}{A B:List Z4}(dA:Dst Z4.FName A) (dB:Dst Z4.FName B) (hA:∀x∈A,FOn x) (hB:∀x∈B,FOn x):fdX n A B=[]↔fa2 SF (srt Z4.FName A) (srt Z4.FName B)=true:=by
 unfold fdX;rw [dif_nil (fun x=>by unfold fdG; simp) (fun x=>by unfold fdN; simp) dB,fa2_srt (fun x _ y _ h=>by unfold SF at h; simp at h; exact h.1) dA dB];exact Mt.congr fun x hx y hy e=>fdW_nil (hA x hx) (hB y hy) e
theorem mis_nil {a b:List Bs}:mis a b=[]↔∀x∈a,x∈b:=by
 unfold mis;rw [List.filter_eq_nil_iff];simp
theorem mem_nil {A B:List Z6}(dA:Dst Z6.FName A) (dB:Dst Z6.FName B):(mis (A.map Z6.FName) (B.map Z6.FName)=[]/\mis (B.map Z6.FName) (A.map Z6.FName)=[])↔fa2 SM (srt Z6.FName A) (srt Z6.FName B)=true:=by
 rw [fa2_srt (fun x _ y _ h=>by unfold SM at h; simpa using h) dA dB,mis_nil,mis_nil];unfold Mt SM;constructor
 ·rintro ⟨h1,h2⟩;refine⟨fun x hx=>?_,fun y hy=>?_⟩
  ·obtain⟨y,hy,e⟩:=List.mem_map.1 (h1 _ (List.mem_map_of_mem hx)); exact⟨y,hy,e,by simp [e]⟩
  ·obtain⟨x,hx,e⟩:=List.mem_map.1 (h2 _ (List.mem_map_of_mem hy)); exact⟨x,hx,e⟩
 ·rintro ⟨h1,h2⟩;refine⟨fun s hs=>?_,fun s hs=>?_⟩
  ·obtain⟨x,hx,rfl⟩:=List.mem_map.1 hs; obtain⟨y,hy,e,_⟩:=h1 x hx; exact List.mem_map.2 ⟨y,hy,e⟩
  ·obtain⟨y,hy,rfl⟩:=List.mem_map.1 hs; obtain⟨x,hx,e⟩:=h2 y hy; exact List.mem_map.2 ⟨x,hx,e⟩
theorem face_nil {A B:List Bs}(dA:Dst id A) (dB:Dst id B):(mis A B=[]/\mis B A=[])↔fa2 (fun a b:Bs=>a==b) (srt id A) (srt id B)=true:=by
 rw [fa2_srt (key:=id) (fun x _ y _ h=>by simpa using h) dA dB,mis_nil,mis_nil];unfold Mt;constructor
 ·rintro ⟨h1,h2⟩;exact⟨fun x hx=>⟨x,h1 x hx,rfl,by simp⟩,fun y hy=>⟨y,h2 y hy,rfl⟩⟩
 ·rintro ⟨h1,h2⟩;refine⟨fun s hs=>?_,fun s hs=>?_⟩
  ·obtain⟨y,hy,e,_⟩:=h1 s hs; exact(show y=s from e)▸hy
  ·obtain⟨y,hy,e⟩:=h2 s hs; exact(show y=s from e)▸hy
structure TOn (t:TDef):Prop where
 f:Dst Z4.FName t.FFields.l
 fa:∀x∈t.FFields.l,FOn x
 m:Dst Z6.FName t.FMembers.l
 i:Dst id t.FImplements.l
 p:Dst Z5.FName t.FInputs.l
 pa:∀x∈t.FInputs.l,x.FDefault.sz<=1048576/\RtN x
theorem tyW_nil {x y:TDef}(hx:TOn x) (hy:TOn y) (e:y.FName=x.FName):tyW x y=[]↔SD x y=true:=by
 unfold tyW SD;rw [e,beq_self_eq_true,Bool.true_and];cases decide (x.FKind=y.FKind)
 ·simp
 ·rw [Bool.not_true,cond_false,Bool.true_and];unfold dfX nam;simp only [List.append_eq_nil_iff,List.map_eq_nil_iff,Bool.and_eq_true];rw [fdX_nil hx.f hy.f hx.fa hy.fa,inX_nil hx.p hy.p hx.pa (fun z hz=>(hy.pa z hz).2),<- mem_nil hx.m hy.m,<- face_nil hx.i hy.i];constructor
  ·rintro ⟨h1,h2,h3,h4,h5,h6⟩; exact⟨⟨h5,h6⟩,h1,⟨h2,h3⟩,h4⟩
  ·rintro ⟨⟨h5,h6⟩,h1,⟨h2,h3⟩,h4⟩; exact⟨h1,h2,h3,h4,h5,h6⟩
theorem diffX_nil {A B:List TDef}(dA:Dst TDef.FName A) (dB:Dst TDef.FName B) (hA:∀t∈A,TOn t) (hB:∀t∈B,TOn t):diffX A B=[]↔fa2 SD (srt TDef.FName A) (srt TDef.FName B)=true:=by
 unfold diffX;rw [all_nil (fun x=>by unfold tyG; simp) (fun x=>by unfold tyN; simp) dB,fa2_srt (fun x _ y _ h=>by unfold SD at h; simp only [Bool.and_eq_true,beq_iff_eq] at h; exact h.2.1) dA dB];exact Mt.congr fun x hx y hy e=>tyW_nil (hA x hx) (hB y hy) e
end Go.Proofs

namespace Go.Proofs
open Go Go.Ab
theorem inputs_rightN (l:List Z5) (z:Unit ⊕ Bool) (h:Z65_q10 l=some z):(z=Sum.inl ()/\∀x∈l,RtN x)\/z=Sum.inr false:=by
  induction l generalizing z with
  | nil=>rw [Z65_q10] at h; exact .inl ⟨(oJ h).symm,fun a ha=>by cases ha⟩
  | cons a r ih =>
    rw [Z65_q10] at h;simp only [Ab.on] at h;have step:∀(x27 x28:Bool),(bif ((a.FHas&&((!x27)||(!x28)))||((!a.FHas)&&(!(bif (!(a.FHas&&((!x27)||(!x28)))&&(!a.FHas)) then Z67_q a.FDefault else false)))) then(some (Sum.inr false)) else(Z65_q10 r))=some z ->
        (z=Sum.inl ()/\∀x∈a::r,RtN x)\/z=Sum.inr false:=by
      intro x27 x28 h;rcases condE h with ⟨_,h⟩|⟨hc,h⟩
      · exact .inr (oJ h).symm
      · rcases ih z h with ⟨h1,h2⟩|h1
        · refine .inl ⟨h1,fun x hx=>?_⟩
          rcases List.mem_cons.1 hx with rfl|hx
          · intro hh
            rw [hh] at hc
            simpa using hc
          · exact h2 x hx
        · exact .inr h1
    rcases guardE h with ⟨_,x22,_,h⟩|⟨_,h⟩<;>rcases guardE h with ⟨_,x23,_,h⟩|⟨_,h⟩<;>rcases condE h with ⟨_,h⟩|⟨_,h⟩;all_goals first
      | exact .inr (oJ h).symm
      | (rcases guardE h with ⟨_,x27,e27,h⟩|⟨e27,h⟩
         · rcases guardE h with ⟨_,x28,_,h⟩|⟨_,h⟩
           · exact step x27 x28 h
           · exact step x27 false h
         · rcases guardE h with ⟨_,x28,_,h⟩|⟨_,h⟩
           · exact step false x28 h
           · exact step false false h)
theorem inputsRight_nl {s:Sl Z5}(h:Z65_q s=some true):∀x∈s.l,RtN x:=by
  unfold Z65_q at h;rcases condE h with ⟨_,h⟩|⟨_,h⟩
  · cases h
  · obtain⟨z,g,h⟩:=bindO_some h
    rcases inputs_rightN _ _ g with ⟨_,h1⟩|rfl
    · exact h1
    · cases h
theorem def_parts2 {t:TDef}(h:Z62_q t=some true):(t.FKind=1\/t.FImplements.l=[])/\(t.FKind=3\/t.FKind=4\/t.FMembers.l=[]):=by
  unfold Z62_q at h;simp only [Ab.on] at h;rcases guardE h with ⟨_,x5,_,h⟩|⟨_,h⟩<;>rcases condE h with ⟨_,h⟩|⟨_,h⟩;all_goals first
    | (cases h; done)
    | (cases e:Z62_q34 t.FImplements.l with
       | inr y=>rw [e] at h; have:=defs34 _ _ e; subst this; cases h
       | inl _ =>
         rw [e] at h;simp only at h;rcases condE h with ⟨k1,h⟩|⟨_,h⟩
         · obtain⟨x15,_,h⟩:=bindO_some h
           simp at h k1;exact⟨.inl k1,.inr (.inr h.1.2)⟩
         · rcases condE h with ⟨k1,h⟩|⟨_,h⟩
           · rcases guardE h with ⟨_,x,_,h⟩|⟨_,h⟩
             · simp at h k1; exact⟨.inr h.1.1.1,.inr (.inr h.1.2)⟩
             · simp at h
           · rcases condE h with ⟨k1,h⟩|⟨_,h⟩
             · rcases guardE h with ⟨_,x,_,h⟩|⟨_,h⟩
               · simp at h k1; exact⟨.inr h.1.1.1,.inl k1⟩
               · simp at h
             · rcases condE h with ⟨k1,h⟩|⟨_,h⟩
               · rcases guardE h with ⟨_,x,_,h⟩|⟨_,h⟩
                 · simp at h k1; exact⟨.inr h.1.1.1,.inr (.inl k1)⟩
                 · simp at h
               · rcases condE h with ⟨k1,h⟩|⟨_,h⟩
                 · rcases guardE h with ⟨_,x,ex,h⟩|⟨_,h⟩
                   · simp at h k1; exact⟨.inr h.1.1.1.1,.inr (.inr h.1.1.2)⟩
                   · simp at h
                 · cases h)
theorem expected_dst {d:TDoc}(h:Z32_q d=some true):(∀t∈d.FDefs.l,FaceD t)/\∀t∈d.FDefs.l,t.FKind=4->Dst Z6.FName t.FMembers.l:=by
  unfold Z32_q at h;obtain⟨x3,_,h⟩:=bindO_some h;rcases guardE h with ⟨_,x4,_,h⟩|⟨_,h⟩;all_goals
    rcases guardE h with ⟨hc,x5,e5,h⟩|⟨hc,h⟩
    · rcases guardE h with ⟨hd,x6,e6,h⟩|⟨hd,h⟩
      · have h:=oJ h
        rw [Bool.and_eq_true,Bool.and_eq_true,decide_eq_true_eq,decide_eq_true_eq] at h;exact⟨faces_dst e6 (List.eq_nil_of_length_eq_zero (by omega)),checkM_dst e5 (List.eq_nil_of_length_eq_zero (by omega))⟩
      · have h:=oJ h
        rw [hd,Bool.false_and] at h; cases h
    · rcases guardE h with ⟨hd,x6,e6,h⟩|⟨hd,h⟩
      · rw [hc,Bool.false_and] at hd; cases hd
      · have h:=oJ h
        rw [hd,Bool.false_and] at h; cases h
theorem ton {d:TDoc}(hd:d.sz<=1048576) (ok:DocOk d) (h:Z32_q d=some true):∀t∈d.FDefs.l,TOn t:=fun t ht=>by
  obtain⟨h1,h2⟩:=expected_dst h;have hr:=ok.r t ht;have rt:=def_rt hr;obtain⟨q1,q2⟩:=def_parts2 hr;have hs:t.sz<=1048576:=by have:=TDoc.def_le ht; omega
  have hsz:=t.sz_def;have inS:∀{s:Sl Z5}{x:Z5},Sl.sz Z5.sz s<=1048576->x∈s.l->x.FDefault.sz<=1048576:=fun {s x} hs hx=>by
    have h1:=Sl.mem_le (f:=Z5.sz) hx; have h2:=x.sz_def; omega
  have hf:∀f∈t.FFields.l,FOn f:=fun f hf=>by
    have h1:=Sl.mem_le (f:=Z4.sz) hf;have h2:=f.sz_def;exact⟨(ok.e t ht).a f hf,fun x hx=>⟨inS (s:=f.FArgs) (by omega) hx,inputsRight_nl (rt.a f hf) x hx⟩⟩
  refine⟨(ok.e t ht).f,hf, ?_, ?_,(ok.e t ht).i,fun x hx=>⟨inS (s:=t.FInputs) (by omega) hx, ?_⟩⟩
  · rcases q2 with k|k|k
    · exact(h1 t ht).2 k
    · exact h2 t ht k
    · rw [k]; exact List.Pairwise.nil
  · rcases q1 with k|k
    · exact(h1 t ht).1 k
    · rw [k]; exact List.Pairwise.nil
  · rcases rt.q with k|k
    · rw [k] at hx; cases hx
    · exact inputsRight_nl k x hx
end Go.Proofs

namespace Go.Proofs
open Go Go.Ab
theorem example49n:Z31=some true:=by kernel_rfl
section
variable {α κ γ:Type} [BEq κ] [LawfulBEq κ]
theorem find_self {key:α->κ}:∀{A:List α},Dst key A->∀x∈A,A.find? (fun t=>key t==key x)=some x
 | [],_,_,h=>(by cases h)
 | a::A,h,x,hx=>by
  obtain⟨h1,h2⟩:=List.pairwise_cons.mp h;rw [List.find?_cons];rcases List.mem_cons.1 hx with rfl|hx
  ·rw [beq_self_eq_true]
  ·rw [show (key a==key x)=false from beq_eq_false_iff_ne.mpr (h1 x hx)];exact find_self h2 x hx
theorem fm_nil {f:α->List γ}:∀{A:List α},(∀x∈A,f x=[])->A.flatMap f=[]
 | [],_=>rfl
 | a::A,h=>by rw [List.flatMap_cons,h a (.head _),fm_nil fun x hx=>h x (.tail _ hx)]; rfl
theorem lon_self {key:α->κ}{g:α->List γ}{A:List α}(h:Dst key A):lon key g A A=[]:=fm_nil fun x hx=>by rw [find_self h x hx]
theorem dif_self {key:α->κ}{w:α->α->List γ}{g:α->List γ}{A:List α}(h:Dst key A) (hw:∀x∈A,w x x=[]):dif key w g A A=[]:=fm_nil fun x hx=>by rw [find_self h x hx]; exact hw x hx
theorem prs_self {key:α->κ}{w:α->α->List γ}{A:List α}(h:Dst key A) (hw:∀x∈A,w x x=[]):prs key w A A=[]:=fm_nil fun x hx=>by rw [find_self h x hx]; exact hw x hx
end
theorem saV_refl (a:TRef):saV a a=true:=by unfold saV; simp
theorem inX_self (n:Bs) (K:Z1) (p:Bs->Bs×Bs){A:List Z5}(h:Dst Z5.FName A) (hA:∀x∈A,IOk x):inX n K p A A=[]:=by
 unfold inX;rw [lon_self h,dif_self h fun x hx=>?_]; rfl;unfold inW;rw [saV_refl,vsX_refl (hA x hx).s];cases x.FHas<;>rfl
theorem fdX_self (n:Bs){t:TDef}(h:DDst t) (ht:TOk t):fdX n t.FFields.l t.FFields.l=[]:=by
 unfold fdX;rw [lon_self h.f,dif_self h.f fun x hx=>?_]; rfl;unfold fdW;rw [saV_refl,inX_self _ _ _ (h.a x hx) (ht.f x hx).a]; rfl
theorem mis_self (l:List Bs):mis l l=[]:=by
 unfold mis;rw [List.filter_eq_nil_iff];intro x hx;simp [hx]
theorem diffX_self {A:List TDef}(h:Dst TDef.FName A) (hd:∀t∈A,DDst t) (ht:∀t∈A,TOk t):diffX A A=[]:=by
 unfold diffX;rw [lon_self h,lon_self h,prs_self h fun x hx=>?_]; rfl;unfold tyW;rw [dT rfl,Bool.not_true,cond_false];unfold dfX;rw [fdX_self _ (hd x hx) (ht x hx),inX_self _ _ _ (hd x hx).i (ht x hx).i,mis_self,mis_self]; rfl
theorem wrapsB {t:TRef}(h:t.sz<=1048576):t.FWraps.l.length<=1048576:=(rok h).w
theorem iob {x:Z5}(h:x.sz<=1048576):IOb (baI x)/\(baI x).FDirs.l=[]:=by
 have h1:=x.sz_def;exact⟨⟨(show x.FDefault.sz<=1048576 by omega),(show x.FType.FWraps.l.length<=1048576 from wrapsB (by omega))⟩,rfl⟩
theorem bounds {d:TDoc}(hd:d.sz<=1048576) (ok:DocOk d):d.FDefs.l.length<=600/\∀t∈d.FDefs.l,BOk t/\TOc (baT t):=by
 have hw:=ok.w;refine⟨by have:=dw_eq d.FDefs.l; omega,fun t ht=>?_⟩;have rt:=def_rt (ok.r t ht);have r1:=rt.f; have r2:=rt.i; have r3:=rt.m; have r4:=rt.p;have hs:t.sz<=1048576:=by have:=TDoc.def_le ht; omega
 have hsz:=t.sz_def;have ra:∀f∈t.FFields.l,f.FArgs.l.length<=16:=fun f hf=>inputsRight_n (rt.a f hf);refine⟨⟨by omega,fun f hf=>by have:=ra f hf; omega,by omega,by omega⟩, ?_⟩;refine⟨rfl,(show t.FImplements.l.length<=1000000 by omega),(show (t.FFields.l.map baF).length<=1000000 by rw [List.length_map]; omega), ?_,(show (t.FMembers.l.map baM).length<=1000000 by rw [List.length_map]; omega), ?_,(show (t.FInputs.l.map baI).length<=1000000 by rw [List.length_map]; omega), ?_⟩
 ·intro y hy;obtain⟨f,hf,rfl⟩:=List.mem_map.1 (show y∈t.FFields.l.map baF from hy);have h1:=Sl.mem_le (f:=Z4.sz) hf;have h2:=f.sz_def;have h3:=ra f hf;refine⟨⟨(show f.FType.FWraps.l.length<=1048576 from wrapsB (by omega)),(show (f.FArgs.l.map baI).length<=1000000 by rw [List.length_map]; omega),fun x hx=>?_⟩,rfl⟩;obtain⟨z,hz,rfl⟩:=List.mem_map.1 (show x∈f.FArgs.l.map baI from hx);have h4:=Sl.mem_le (f:=Z5.sz) hz
  exact iob (by omega)
 ·intro y hy;obtain⟨f,hf,rfl⟩:=List.mem_map.1 (show y∈t.FMembers.l.map baM from hy);rfl
 ·intro y hy;obtain⟨z,hz,rfl⟩:=List.mem_map.1 (show y∈t.FInputs.l.map baI from hy);have h4:=Sl.mem_le (f:=Z5.sz) hz;exact iob (by omega)
theorem sorted_is {d:TDoc}(hd:d.sz<=1048576) (ok:DocOk d):∃b r,Z112_q d=some b/\Z73_q b=some r/\All2 RD (srt TDef.FName (d.FDefs.l.map baT)) r.FDefs.l:=by
 obtain⟨h1,h2⟩:=bounds hd ok;obtain⟨r,e,h⟩:=sort_is (d:=TDoc.mk (mkS (d.FDefs.l.map baT))) (show (d.FDefs.l.map baT).length<=1000000 by rw [List.length_map]; omega) (fun x hx=>by
  obtain⟨t,ht,rfl⟩:=List.mem_map.1 (show x∈d.FDefs.l.map baT from hx);exact(h2 t ht).2)
 exact⟨_,r,bare_is (by omega) (fun t ht=>(h2 t ht).1),e,h⟩
theorem none_eq {a b:TDoc}(ha:a.wf) (hb:b.wf) (sa:a.sz<=1048576) (sb:b.sz<=1048576):Z30_q a b=some true:=by
 obtain⟨x4,e4,w4⟩:=expected_is ha sa;obtain⟨x5,e5,w5⟩:=expected_is hb sb;unfold Z30_q;rw [e4,oB,e5];have hg:∀{k:Bool->Option Bool},guardO (!(!x4)) (some x5) false k=k (x4&&x5):=by
  intro k; cases x4<;>rfl
 rw [hg,example49n];cases x4
 ·rfl
 ·cases x5
  ·rfl
  ·have o1:=w4 rfl;have o2:=w5 rfl;have l1:=diffX_len o1.n o2.n o1.e o2.e;have h1:=o1.w;have h2:=o2.w;have s1:=diffX_self o1.n o1.e o1.t;obtain⟨n1,d1⟩:=diff_is o1.t o1.t (by rw [s1]; unfold maxD; exact Nat.zero_le _);obtain⟨n2,d2⟩:=diff_is o1.t o2.t (by unfold maxD; omega);obtain⟨b1,r1,f1,g1,k1⟩:=sorted_is sa o1;obtain⟨b2,r2,f2,g2,k2⟩:=sorted_is sb o2;have key:=diffX_nil o1.n o2.n (ton sa o1 e4) (ton sb o2 e5)
   have hs:=same_docs k1 k2;rw [SDs_ba] at hs;simp only [Bool.and_true,Bool.not_true,Bool.or_false,cond_false];rw [f1,oB,g1,oB,f2,oB,g2,oB,hs,oB,d1,oB,s1];have e0:decide (((([]:List Z2).length:Nat):Int)=0)=true:=rfl;simp only [];rw [e0,d2];simp only [guardO,if_true,oB,Bool.true_and];have e1:(decide ((((diffX a.FDefs.l b.FDefs.l).length:Nat):Int)=0)==fa2 SD (srt TDef.FName a.FDefs.l) (srt TDef.FName b.FDefs.l))=true:=by
    cases hx:fa2 SD (srt TDef.FName a.FDefs.l) (srt TDef.FName b.FDefs.l)
    ·have:diffX a.FDefs.l b.FDefs.l≠[]:=fun e=>by rw [key.1 e] at hx; cases hx
     rw [dF (fun e=>this (List.eq_nil_of_length_eq_zero (by omega)))]; rfl
    ·rw [key.2 hx]; rfl
   rw [e1];rfl
end Go.Proofs

namespace Go.Proofs.YtmmmdpmnafkblaaGreatDoor
open Go Go.Ab Go.RowKit Go.ChangeShapes Go.WideShapes Go.ChangeAt
variable {lou:Lou} [IsLoud lou]
theorem bulkAll {H:Type}(l:List (DataW H)):Rows.uptoBulkAll l=(l.map Rows.uptoBulk).sum:=by
 induction l with
 | nil=>rfl
 | cons x r ih=>simp only [Rows.uptoBulkAll,List.map_cons,List.sum_cons,ih]
theorem bulkB {H:Type}:Bulk (H:=H) Rows.uptoBulk:=by
 refine⟨fun d=>?_,fun b=>by simp [Rows.uptoBulk],fun e s=>by simp only [Rows.uptoBulk,bulkAll]; omega,fun l=>by simp only [Rows.uptoBulk,bulkAll]; omega⟩;cases d with
 | lit l=>cases l<;>simp [Rows.uptoBulk]
 | nil=>simp [Rows.uptoBulk]
 | ptr d=>simp [Rows.uptoBulk]
 | slice elems spare=>simp [Rows.uptoBulk]
 | agg parts=>simp [Rows.uptoBulk]
 | iface t d=>simp [Rows.uptoBulk]
 | map entries=>simp [Rows.uptoBulk]
 | held h=>simp [Rows.uptoBulk]
theorem own:ownKnob Tryz.prog.godebug=none:=by kernel_rfl
theorem laid:laidOutB Tryz.prog=true:=by kernel_rfl
theorem bound {H:Type}{l:List (DataW H)}(hk:Rows.uptoSmall H l=true):Rows.uptoBulkAll l<=1048576:=oD hk
theorem table {W:World}(h:laidMet Tryz.prog Rows.changesNoneUptoRow.laid W):∃u fr,W.heap[1]?=some (.cells (Lib.pow10Tab.map fun z=>Value.int .u64 z).toArray u fr) :=
 tab_of (P:=Tryz.prog) (name := "internal/strconv.uint64pow10") (g:=1) (t:=210) (e:=201) (n:=20) (by kernel_rfl) (by kernel_rfl) (by kernel_rfl) (by kernel_rfl) (by kernel_rfl) (by kernel_rfl) h
  (by rw [show (Lib.tabData .u64 Lib.pow10Tab:DataW Unit)=Rows.laid_internal_strconv_uint64pow10 from(by kernel_rfl)]; exact .tail _ (.tail _ (.head _)))
theorem isTab (u:TypeId) (fr:Nat×Nat):IsTab Tryz.prog (.fix 1 (.cells (Lib.pow10Tab.map fun z=>Value.int .u64 z).toArray u fr)):=.of (by kernel_rfl)
theorem none_call (a b:TDoc) (ha:a.sz<=1048576) (hb:b.sz<=1048576) (wa:a.wf) (wb:b.wf) (u:TypeId) (fr:Nat×Nat):AC Tryz.prog 3 [.agg a.c,.agg b.c] (hTab 1 (.cells (Lib.pow10Tab.map fun z=>Value.int .u64 z).toArray u fr)) fun r h'=>r=.a (.d (.bool true))/\h'=hTab 1 (.cells (Lib.pow10Tab.map fun z=>Value.int .u64 z).toArray u fr) :=
 Z30_walk (by rw [Z30_eq]; exact none_eq wa wb ha hb) _ (gT:=0) rfl (isTab u fr)
end Go.Proofs.YtmmmdpmnafkblaaGreatDoor

