import Derived.Test.YtimiconoebjfbaaGreatDoorV14
set_option maxRecDepth 100000
set_option maxHeartbeats 2000000
set_option linter.unusedVariables false
set_option linter.unusedSimpArgs false
namespace Go.Proofs
open Go Go.Ab
theorem appG {s r:Sl TFault}{T:Nat}(hT:T<=1099511627776) (h:s.l.length+r.l.length<=T):∃v,appC 24 s r=some v/\v.l.length=s.l.length+r.l.length:=⟨_,appC_ok (by decide) (Nat.le_trans h hT),by simp⟩
theorem Tl.appG {s:Sl TFault}{o:Option (Sl TFault)}{b c T:Nat}{k:Sl TFault->Option (Sl TFault)}(hT:T<=1099511627776) (h:Tl o b) (hb:s.l.length+b<=T) (hk:∀r:Sl TFault,r.l.length<=s.l.length+b->Tl (k r) c):Tl (o.bind fun x=>(appC 24 s x).bind k) c:=by
 obtain⟨r,h1,h2⟩:=h;obtain⟨v,h3,h4⟩:=Go.Proofs.appG (s:=s) (r:=r) hT (by omega);rw [h1,Option.bind_some,h3,Option.bind_some];exact hk v (by omega)
theorem fieldof_in (a:TDef) (n:Bs):(Z44_q a n).1∈a.FFields.l\/((Z44_q a n).1.FArgs.l=[]/\(Z44_q a n).1.FType.FWraps.l=[]):=by
 unfold Z44_q;simp only [Ab.on];have:∀l:List TField,(match Z44_q6 n l with|Sum.inl _=>True|Sum.inr e=>e.1∈l):=by
  intro l;induction l with
  | nil=>exact trivial
  | cons x r ih =>
   rw [Z44_q6];simp only [Ab.on];cases hq:x.FName==n
   ·simp only [cond_false]
    revert ih
    cases Z44_q6 n r with
    | inl u=>intro _; exact trivial
    | inr e=>intro ih; exact .tail _ ih
   ·exact .head _
 have h:=this a.FFields.l
 revert h
 cases Z44_q6 n a.FFields.l with
 | inl u=>intro _; exact .inr ⟨rfl,rfl⟩
 | inr e=>intro h; exact .inl h
theorem field_args {f:TField}(h:f.sz<=1048576):(∀x∈f.FArgs.l,x.FName.length<=1048576)/\f.FName.length<=1048576/\f.FType.FWraps.l.length<=1048576:=by
 have h1:=f.sz_def;have h2:=Bs.len_le f.FName;have h3:=f.FType.sz_def;have h4:=Sl.len_le (f:=fun _:Int=>1) f.FType.FWraps (fun _=>Nat.le_refl _);refine⟨fun x hx=>?_,by omega,by omega⟩;have h5:=Sl.mem_le (f:=TInput.sz) hx;have h6:=x.sz_def;have h7:=Bs.len_le x.FName;omega
theorem f43_tl (p:Bs) (hp:p.length<=10000000) (x:TField×Bool):∀(l:List TInput) (s:Sl TFault),(∀y∈l,y.FName.length<=1048576)->s.l.length+l.length<=1000000->Tl (Z69_q43 p x l s) (s.l.length+l.length)
 | [],s,_,_=>⟨s,rfl,by simp⟩
 | y::l,s,hy,hs=>by
  have hn:=hy y (.head _);simp only [List.length_cons] at hs ⊢;rw [Z69_q43];simp only [Ab.on];have ih:∀v:Sl TFault,v.l.length<=s.l.length+1->Tl (Z69_q43 p x l v) (s.l.length+(l.length+1)):=fun v hv=>(f43_tl p hp x l v (fun z hz=>hy z (.tail _ hz)) (by omega)).mono (by omega);have more:Tl (Option.bind ((catC p ([40]:Bs)).bind fun x59=>(catC x59 y.FName).bind fun x61=>(catC x61 ([41]:Bs)).bind fun x62=>(appC 24 s (⟨false,[(TFault.mk (22:Int) x62)]⟩:Sl TFault)).bind fun x63=>some x63) fun v=>Z69_q43 p x l v) (s.l.length+(l.length+1)):=by
   rw [catC_ok (by simp; omega),Option.bind_some,catC_ok (by simp; omega),Option.bind_some,catC_ok (by simp; omega),Option.bind_some];exact(Tl.add1 (Nat.le_refl _) (by omega)).bind fun v hv=>ih v hv
  cases (Z46_q x.1.FArgs y.FName).2
  ·simp only [guardO,Bool.not_false,Bool.not_true,Bool.true_or,cond_true];exact more
  ·obtain⟨b,hb⟩:=same11_ok (Z46_q x.1.FArgs y.FName).1.FType y.FType;simp only [guardO,Bool.not_true,Bool.not_false,if_true,cond_true,Bool.false_or,hb,Option.bind_some];cases b
   ·exact more
   ·exact ih s (by omega)
theorem f20_tl (a:TField) (p:Bs) (hp:p.length<=10000000):∀(l:List TInput) (s:Sl TFault),(∀y∈l,y.FName.length<=1048576)->s.l.length+l.length<=1000000->Tl (Z69_q20 a p l s) (s.l.length+l.length)
 | [],s,_,_=>⟨s,rfl,by simp⟩
 | y::l,s,hy,hs=>by
  have hn:=hy y (.head _);simp only [List.length_cons] at hs ⊢;rw [Z69_q20];simp only [Ab.on];have ih:∀v:Sl TFault,v.l.length<=s.l.length+1->Tl (Z69_q20 a p l v) (s.l.length+(l.length+1)):=fun v hv=>(f20_tl a p hp l v (fun z hz=>hy z (.tail _ hz)) (by omega)).mono (by omega);have both:∀w:Bool,Tl (Option.bind (bif w then((catC p ([40]:Bs)).bind fun x59=>(catC x59 y.FName).bind fun x61=>(catC x61 ([41]:Bs)).bind fun x62=>(appC 24 s (⟨false,[(TFault.mk (22:Int) x62)]⟩:Sl TFault)).bind fun x63=>some x63) else some s) fun v=>Z69_q20 a p l v) (s.l.length+(l.length+1)):=by
   intro w;cases w
   ·exact ih s (by omega)
   ·rw [cond_true,catC_ok (by simp; omega),Option.bind_some,catC_ok (by simp; omega),Option.bind_some,catC_ok (by simp; omega),Option.bind_some];exact(Tl.add1 (Nat.le_refl _) (by omega)).bind fun v hv=>ih v hv
  exact both _
theorem field_tl {d:TDoc}(hd:d.FDefs.l.length<=1048576){a:TDef}(ha:a.sz<=1048576) (hs:Sm a){f:TField}(hf:f.sz<=1048576) (hfa:f.FArgs.l.length<=1000):Tl (Z69_q d a f) 2001:=by
 obtain⟨g1,g2,g3⟩:=field_args hf;have h1:=a.sz_def;have h2:=Bs.len_le a.FName;have hx:(∀y∈(Z44_q a f.FName).1.FArgs.l,y.FName.length<=1048576)/\(Z44_q a f.FName).1.FArgs.l.length<=1000/\(Z44_q a f.FName).1.FType.FWraps.l.length<=1048576:=by
  rcases fieldof_in a f.FName with h|⟨h,h'⟩
  ·have h5:=Sl.mem_le (f:=TField.sz) h;obtain⟨k1,k2,k3⟩:=field_args (f:=(Z44_q a f.FName).1) (by omega);exact⟨k1,hs.2.2.2.2 _ h,k3⟩
  ·rw [h,h']; exact⟨fun _ h=>(by cases h),by simp,by simp⟩
 unfold Z69_q;rw [catC_ok (by simp; omega),Option.bind_some,catC_ok (by simp; omega),Option.bind_some];simp only [Ab.on];cases (Z44_q a f.FName).2
 ·exact⟨_,rfl,by simp⟩
 ·obtain⟨v,hv⟩:=sub_ok hd F0 (Z44_q a f.FName).1.FType f.FType (by rw [F0_eq]; omega) hx.2.2 g3;rw [Bool.not_true,cond_false,show Z68_q d (Z44_q a f.FName).1.FType f.FType=some v from hv,Option.bind_some];have first:∀w:Bool,Tl (bif w then((appC 24 (Sl.nil:Sl TFault) (⟨false,[(TFault.mk (10:Int) (a.FName++[46]++f.FName))]⟩:Sl TFault)).bind fun x67=>some x67) else(some (Sl.nil:Sl TFault))) 1:=by
   intro w;cases w
   ·exact⟨Sl.nil,rfl,by simp [Sl.nil]⟩
   ·exact Tl.add1 (s:=Sl.nil) (b:=0) (Nat.le_refl _) (by omega)
  refine(first (!v)).bind fun r hr=>?_;refine Tl.bind (a:=1001) ((f43_tl _ (by simp; omega) _ f.FArgs.l r g1 (by omega)).mono (by omega)) fun r2 hr2=>?_;refine Tl.bind (a:=2001) ((f20_tl f _ (by simp; omega) _ r2 hx.1 (by have:=hx.2.1; omega)).mono (by have:=hx.2.1; omega)) fun r3 hr3=>?_;exact⟨r3,rfl,hr3⟩
theorem o30_tl {d:TDoc}(hd:d.FDefs.l.length<=1048576){a:TDef}(ha:a.sz<=1048576) (hs:Sm a){T:Nat}(hT:T<=1099511627776):∀(l:List TField) (s:Sl TFault),(∀f∈l,f.sz<=1048576/\f.FArgs.l.length<=1000)->s.l.length+2001*l.length<=T->Tl (Z74_q30 d a l s) (s.l.length+2001*l.length)
 | [],s,_,_=>⟨s,rfl,by simp⟩
 | f::l,s,hf,h=>by
  simp only [List.length_cons] at h ⊢;obtain⟨f1,f2⟩:=hf f (.head _);rw [Z74_q30];simp only [Ab.on];refine Tl.appG hT (field_tl hd ha hs f1 f2) (Nat.le_trans (Nat.add_le_add_left (Nat.le_mul_of_pos_right 2001 (Nat.succ_pos l.length)) s.l.length) h) fun r hr=>?_;exact(o30_tl hd ha hs hT l r (fun z hz=>hf z (.tail _ hz)) (by omega)).mono (by omega)
def AllSm (d:TDoc):Prop:=∀x∈d.FDefs.l,x.sz<=1048576/\Sm x
theorem found_sm {d:TDoc}(h:AllSm d) (n:Bs):(∀f∈(Z45_q d n).1.FFields.l,f.sz<=1048576/\f.FArgs.l.length<=1000)/\(Z45_q d n).1.FFields.l.length<=1000:=by
 have key:(Z45_q d n).1∈d.FDefs.l\/(Z45_q d n).1.FFields.l=[]:=by
  unfold Z45_q;simp only [Ab.on];have:∀l:List TDef,(match Z45_q6 n l with|Sum.inl _=>True|Sum.inr e=>e.1∈l):=by
   intro l;induction l with
   | nil=>exact trivial
   | cons a r ih =>
    rw [Z45_q6];simp only [Ab.on];cases hq:a.FName==n
    ·simp only [cond_false]
     revert ih
     cases Z45_q6 n r with
     | inl u=>intro _; exact trivial
     | inr e=>intro ih; exact .tail _ ih
    ·exact .head _
  have h:=this d.FDefs.l
  revert h
  cases Z45_q6 n d.FDefs.l with
  | inl u=>intro _; exact .inr rfl
  | inr e=>intro h; exact .inl h
 rcases key with hk|hk
 ·obtain⟨h1,h2⟩:=h _ hk;refine⟨fun f hf=>⟨?_,h2.2.2.2.2 f hf⟩,h2.1⟩;have h3:=Sl.mem_le (f:=TField.sz) hf;have h4:=(Z45_q d n).1.sz_def;omega
 ·rw [hk]; exact⟨fun _ h=>(by cases h),by simp⟩
theorem obj_tl {d:TDoc}(hd:d.FDefs.l.length<=1048576) (hA:AllSm d){a:TDef}(ha:a.sz<=1048576) (hs:Sm a){T:Nat}(hT:T<=1099511627776):∀(l:List Bs) (i:Nat) (s:Sl TFault),s.l.length+2001000*l.length<=T->Tl (Z74_q7 d a l i s) (s.l.length+2001000*l.length)
 | [],i,s,_=>⟨s,rfl,by simp⟩
 | n::l,i,s,h=>by
  simp only [List.length_cons] at h ⊢;rw [Z74_q7];simp only [Ab.on];have ih:∀v:Sl TFault,v.l.length<=s.l.length+2001000->Tl (Z74_q7 d a l (i+1) v) (s.l.length+2001000*(l.length+1)):=fun v hv=>(obj_tl hd hA ha hs hT l (i+1) v (by omega)).mono (by omega);obtain⟨k1,k2⟩:=found_sm hA n;have both:∀(w:Bool) (e:Int),Tl (Option.bind (bif w then((appC 24 s (⟨false,[(TFault.mk e a.FName)]⟩:Sl TFault)).bind fun x25=>some x25) else(Option.bind (Z74_q30 d a (Z45_q d n).1.FFields.l s) fun s5_31=>some s5_31)) fun v=>Z74_q7 d a l (i+1) v) (s.l.length+2001000*(l.length+1)):=by
   intro w e;cases w
   ·obtain⟨r,r1,r2⟩:=o30_tl hd ha hs hT _ s k1 (by omega);rw [cond_false,r1];exact ih r (by omega)
   ·obtain⟨v,v1,v2⟩:=appG (s:=s) (r:=⟨false,[TFault.mk e a.FName]⟩) hT (by simp; omega);rw [cond_true,v1];exact ih v (by rw [v2]; simp)
  exact both _ _
theorem uni_tl {d:TDoc}{a:TDef}(ha:a.FName.length<=1048576){T:Nat}(hT:T<=1099511627776):∀(l:List TMember) (i:Nat) (s:Sl TFault),(∀m∈l,m.FName.length<=1048576)->s.l.length+l.length<=T->Tl (Z75_q7 d a l i s) (s.l.length+l.length)
 | [],i,s,_,_=>⟨s,rfl,by simp⟩
 | m::l,i,s,hm,h=>by
  have hn:=hm m (.head _);simp only [List.length_cons] at h ⊢;rw [Z75_q7];simp only [Ab.on];have ih:∀v:Sl TFault,v.l.length<=s.l.length+1->Tl (Z75_q7 d a l (i+1) v) (s.l.length+(l.length+1)):=fun v hv=>(uni_tl ha hT l (i+1) v (fun z hz=>hm z (.tail _ hz)) (by omega)).mono (by omega);have both:∀(w:Bool) (e:Int),Tl (Option.bind (bif w then((catC a.FName ([46]:Bs)).bind fun x24=>(catC x24 m.FName).bind fun x25=>(appC 24 s (⟨false,[(TFault.mk e x25)]⟩:Sl TFault)).bind fun x26=>some x26) else(some s)) fun v=>Z75_q7 d a l (i+1) v) (s.l.length+(l.length+1)):=by
   intro w e;cases w
   ·exact ih s (by omega)
   ·rw [cond_true,catC_ok (by simp; omega),Option.bind_some,catC_ok (by simp; omega),Option.bind_some];obtain⟨v,v1,v2⟩:=appG (s:=s) (r:=⟨false,[TFault.mk e (a.FName++[46]++m.FName)]⟩) hT (by simp; omega);rw [v1];exact ih v (by rw [v2]; simp)
  exact both _ _
end Go.Proofs

namespace Go.Proofs
open Go Go.Ab
theorem object_tl {d:TDoc}(hd:d.FDefs.l.length<=1048576) (hA:AllSm d){a:TDef}(ha:a.sz<=1048576) (hs:Sm a):Tl (Z74_q d a) 2001000000:=by
 unfold Z74_q;have h1:2001000*a.FImplements.l.length<=2001000*1000:=Nat.mul_le_mul_left _ hs.2.2.1;obtain⟨r,e1,e2⟩:=obj_tl hd hA ha hs (T:=1099511627776) (Nat.le_refl _) a.FImplements.l 0 Sl.nil (by
  show 0+2001000*a.FImplements.l.length<=_;rw [Nat.zero_add];exact Nat.le_trans h1 (by decide))
 rw [e1];refine⟨r,rfl, ?_⟩;rw [show (Sl.nil:Sl TFault).l.length=0 from rfl,Nat.zero_add] at e2;exact Nat.le_trans e2 h1
theorem union_tl {d:TDoc}{a:TDef}(ha:a.sz<=1048576) (hs:Sm a):Tl (Z75_q d a) 2001000000:=by
 unfold Z75_q;have h1:=a.sz_def;have h2:=Bs.len_le a.FName;have h3:=hs.2.1;obtain⟨r,e1,e2⟩:=uni_tl (d:=d) (a:=a) (by omega) (T:=1000) (by decide) a.FMembers.l 0 Sl.nil (fun m hm=>by
  have h5:=Sl.mem_le (f:=TMember.sz) hm;have h6:=m.sz_def;have h7:=Bs.len_le m.FName;omega) (by simp only [Sl.nil,List.length_nil]; omega)
 rw [e1];refine⟨r,rfl, ?_⟩;simp only [Sl.nil,List.length_nil] at e2;omega
theorem faces_loop {d:TDoc}{C T:Nat}(hT:T<=1099511627776):∀(l:List TDef) (s:Sl TFault),(∀a∈l,Tl (Z74_q d a) C/\Tl (Z75_q d a) C)->s.l.length+C*l.length<=T->Tl (Z64_q7 d l s) (s.l.length+C*l.length)
 | [],s,_,_=>⟨s,rfl,by simp⟩
 | a::l,s,hC,h=>by
  obtain⟨c1,c2⟩:=hC a (.head _);rw [List.length_cons,Nat.mul_succ] at h;rw [List.length_cons,Nat.mul_succ];rw [Z64_q7];simp only [Ab.on];have hs:s.l.length+C<=T:=Nat.le_trans (by generalize C*l.length=m; omega) h;have ih:∀v:Sl TFault,v.l.length<=s.l.length+C->Tl (Z64_q7 d l v) (s.l.length+(C*l.length+C)):=fun v hv=>by
   refine(faces_loop hT l v (fun z hz=>hC z (.tail _ hz)) ?_).mono ?_
   ·clear hT; revert h; generalize C*l.length=m; intro h; omega
   ·clear hT; revert h; generalize C*l.length=m; intro h; omega
  have both:∀{o:Option (Sl TFault)},Tl o C->Tl (Option.bind (o.bind fun x21=>(appC 24 s x21).bind fun x22=>some x22) fun v=>Z64_q7 d l v) (s.l.length+(C*l.length+C)):=by
   intro o ho;refine Tl.bind (a:=s.l.length+C) (Tl.appG hT ho hs fun r hr=>⟨r,rfl,hr⟩) fun v hv=>ih v hv
  cases decide (a.FKind=1)
  ·cases decide (a.FKind=3)
   ·exact ih s (by omega)
   ·exact both c2
  ·exact both c1
theorem faces_tl {d:TDoc}(hd:d.sz<=1048576) (h:d.FDefs.l.length<=70/\∀x∈d.FDefs.l,Sm x):∃r,Z64_q d=some r:=by
 have hA:AllSm d:=fun x hx=>by
  have h1:=d.sz_def;have h5:=Sl.mem_le (f:=TDef.sz) hx;exact⟨by omega,h.2 x hx⟩
 have h70:2001000000*d.FDefs.l.length<=2001000000*70:=Nat.mul_le_mul_left _ h.1;obtain⟨r,e,-⟩:=faces_loop (d:=d) (C:=2001000000) (T:=1099511627776) (Nat.le_refl _) d.FDefs.l Sl.nil (fun a ha=>⟨object_tl (by omega) hA (hA a ha).1 (hA a ha).2,union_tl (hA a ha).1 (hA a ha).2⟩) (by
  show 0+2001000000*d.FDefs.l.length<=_;rw [Nat.zero_add];exact Nat.le_trans h70 (by decide))
 unfold Z64_q;rw [e];exact⟨r,rfl⟩
end Go.Proofs

namespace Go.Proofs
open Go Go.Ab
theorem sel_all (s:TSel):(s.FArgs.l.map TArg.sz).sum+(s.FDirs.l.map TDir.sz).sum+(s.FSels.l.map TSel.sz).sum+4<=s.sz:=by
 have h:=s.sz_def; have h1:=Bs.sz_pos s.FAlias; have h2:=Bs.sz_pos s.FName;have h3:(s.FArgs.l.map TArg.sz).sum+1=Sl.sz TArg.sz s.FArgs:=by unfold Sl.sz; omega
 have h5:(s.FDirs.l.map TDir.sz).sum+1=Sl.sz TDir.sz s.FDirs:=by unfold Sl.sz; omega
 have h4:(s.FSels.l.map TSel.sz).sum+1=Sl.sz TSel.sz s.FSels:=by unfold Sl.sz; omega
 omega
theorem deep_tot:∀(n:Nat) (l:Sl TSel) (a:Int),(l.l.map TSel.sz).sum<n->a<=1000->∃b,Z82_qn n l a=some b
 | 0,_,_,h,_=>by omega
 | n+1,l,a,h,ha=>by
  have loop:∀(t:List TSel),(t.map TSel.sz).sum<=n->∃b,Z82_q5 a (Z82_qn n) t=some b:=by
   intro t;induction t with
   | nil=>intro _; exact⟨_,rfl⟩
   | cons x r ih =>
    intro ht;simp only [List.map_cons,List.sum_cons] at ht;have hp:=sel_all x;obtain⟨b,hb⟩:=ih (by omega);rw [Z82_q5];simp only [Ab.on];by_cases h0:a<=0
    ·rw [show decide (a<=0)=true from decide_eq_true h0];exact⟨_,rfl⟩
    ·rw [show decide (a<=0)=false from decide_eq_false h0];obtain⟨c,hc⟩:=deep_tot n x.FSels (a-1) (by omega) (by omega);simp only [Bool.not_false,cond_true,guardO,if_true,Bool.false_or];rw [subC_ok (by omega),Option.bind_some,hc,Option.bind_some];cases c
     ·exact⟨b,hb⟩
     ·exact⟨_,rfl⟩
  obtain⟨b,hb⟩:=loop l.l (by omega);rw [Z82_qn,hb];cases b<;>exact⟨_,rfl⟩
theorem count_tot:∀(n:Nat) (l:Sl TSel) (a:Int),(l.l.map TSel.sz).sum<n->(l.l.map TSel.sz).sum<=1048576->a<=1000->∃b,Z81_qn n l a=some b/\0<=b/\b<=((l.l.map TSel.sz).sum:Nat)
 | 0,_,_,h,_,_=>by omega
 | n+1,l,a,h,hl,ha=>by
  have loop:∀(t:List TSel) (c:Int),(t.map TSel.sz).sum<=n->0<=c->c+((t.map TSel.sz).sum:Nat)<=1048576->∃b,Z81_q7 a (Z81_qn n) t c=some b/\0<=b/\b<=c+((t.map TSel.sz).sum:Nat):=by
   intro t;induction t with
   | nil=>intro c _ h0 _; exact⟨c,rfl,h0,by simp⟩
   | cons x r ih =>
    intro c ht h0 hc;simp only [List.map_cons,List.sum_cons] at ht hc ⊢;have hp:=sel_all x;have hla:x.FArgs.l.length<=(x.FArgs.l.map TArg.sz).sum:=by have:=Sl.len_lt (f:=TArg.sz) x.FArgs TArg.pos; unfold Sl.sz at this; omega
    have hld:x.FDirs.l.length<=(x.FDirs.l.map TDir.sz).sum:=by have:=Sl.len_lt (f:=TDir.sz) x.FDirs TDir.pos; unfold Sl.sz at this; omega
    rw [Z81_q7];simp only [Ab.on];by_cases hlt:c<a
    ·rw [show decide (c<a)=true from decide_eq_true hlt,cond_true];obtain⟨d,hd,hd0,hd1⟩:=count_tot n x.FSels (a-c) (by omega) (by omega) (by omega);rw [addC_ok (by omega),Option.bind_some,addC_ok (by omega),Option.bind_some,subC_ok (by omega),Option.bind_some,hd,Option.bind_some,addC_ok (by omega),Option.bind_some,addC_ok (by omega),Option.bind_some];obtain⟨b,hb,hb0,hb1⟩:=ih (c+(1+(x.FArgs.l.length:Int)+(x.FDirs.l.length:Int)+d)) (by omega) (by omega) (by omega)
     exact⟨b,hb,hb0,by omega⟩
    ·rw [show decide (c<a)=false from decide_eq_false hlt];exact⟨c,rfl,h0,by omega⟩
  obtain⟨b,hb,hb0,hb1⟩:=loop l.l 0 (by omega) (by omega) (by omega);rw [Z81_qn,hb];exact⟨b,rfl,hb0,by omega⟩
theorem deep_top (l:Sl TSel) (h:(l.l.map TSel.sz).sum<=1048576):∃b,Z82_q l 26=some b:=deep_tot F0 l 26 (by rw [F0_eq]; omega) (by omega)
theorem count_top (l:Sl TSel) (h:(l.l.map TSel.sz).sum<=1048576):∃b,Z81_q l 300=some b/\0<=b/\b<=1048576:=by
 obtain⟨b,h1,h2,h3⟩:=count_tot F0 l 300 (by rw [F0_eq]; omega) h (by omega);exact⟨b,h1,h2,by omega⟩
theorem large_ops:∀(l:List TOp) (c:Int),(∀x∈l,(x.FSels.l.map TSel.sz).sum<=1048576)->0<=c->c+l.length*1048576<=1125899906842624->∃b,Z78_q32 l c=some b/\∀d,b=Sum.inl d->0<=d/\d<=c+l.length*1048576
 | [],c,_,h0,_=>⟨_,rfl,fun d e=>by cases e; simp; omega⟩
 | x::r,c,hx,h0,hc=>by
  simp only [List.length_cons] at hc ⊢;obtain⟨b1,h1⟩:=deep_top x.FSels (hx x (by simp));obtain⟨b2,h2,h3,h4⟩:=count_top x.FSels (hx x (by simp));rw [Z78_q32];simp only [Ab.on,h1,Option.bind_some];cases hb:(b1||decide ((30:Int)<(((bif !b1 then x else TOp.zero).FVars.l.length:Nat):Int)))
  ·rw [cond_false,h2,Option.bind_some,addC_ok (by omega),Option.bind_some];obtain⟨b,h5,h6⟩:=large_ops r (c+b2) (fun y hy=>hx y (by simp [hy])) (by omega) (by omega);exact⟨b,h5,fun d e=>by have:=h6 d e; omega⟩
  ·exact⟨_,rfl,fun d e=>by cases e⟩
theorem large_frags:∀(l:List TFrag) (c:Int),(∀x∈l,(x.FSels.l.map TSel.sz).sum<=1048576)->0<=c->c+l.length*1048576<=1125899906842624*2->∃b,Z78_q14 l c=some b
 | [],c,_,h0,_=>⟨_,rfl⟩
 | x::r,c,hx,h0,hc=>by
  simp only [List.length_cons] at hc;obtain⟨b1,h1⟩:=deep_top x.FSels (hx x (by simp));obtain⟨b2,h2,h3,h4⟩:=count_top x.FSels (hx x (by simp));rw [Z78_q14];simp only [Ab.on,h1,Option.bind_some];cases b1
  ·rw [cond_false,h2,Option.bind_some,addC_ok (by omega),Option.bind_some];exact large_frags r (c+b2) (fun y hy=>hx y (by simp [hy])) (by omega) (by omega)
  ·exact⟨_,rfl⟩
def QOk (q:TQuery):Prop:=q.FFrags.l.length<=349526/\q.FOps.l.length<=1048576/\(∀f∈q.FFrags.l,(f.FSels.l.map TSel.sz).sum<=1048576)/\∀f∈q.FOps.l,(f.FSels.l.map TSel.sz).sum<=1048576
theorem three_len {α:Type}{f:α->Nat}:∀(l:List α),(∀x∈l,3<=f x)->3*l.length<=(l.map f).sum
 | [],_=>by simp
 | a::r,h=>by
  have h1:=h a (by simp);have h2:=three_len r fun x hx=>h x (by simp [hx]);simp only [List.length_cons,List.map_cons,List.sum_cons]; omega
theorem qOk {q:TQuery}(h:q.sz<=1048576):QOk q:=by
 have h0:=q.sz_def;have h1:=Sl.len_lt (f:=TOp.sz) q.FOps TOp.pos;have h2:3*q.FFrags.l.length<=(q.FFrags.l.map TFrag.sz).sum:=three_len _ fun x _=>by
  have:=x.sz_def; have:=Bs.sz_pos x.FName; have:=Bs.sz_pos x.FOn; have:=Sl.sz_pos TSel.sz x.FSels; omega
 have h3:(q.FFrags.l.map TFrag.sz).sum+1=Sl.sz TFrag.sz q.FFrags:=by unfold Sl.sz; omega
 refine⟨by omega,by omega,fun f hf=>?_,fun f hf=>?_⟩
 ·have h4:=Sl.mem_le (f:=TFrag.sz) hf;have h5:=f.sz_def;have h6:(f.FSels.l.map TSel.sz).sum+1=Sl.sz TSel.sz f.FSels:=by unfold Sl.sz; omega
  omega
 ·have h4:=Sl.mem_le (f:=TOp.sz) hf;have h5:=f.sz_def;have h6:(f.FSels.l.map TSel.sz).sum+1=Sl.sz TSel.sz f.FSels:=by unfold Sl.sz; omega
  omega
theorem large_tot {q:TQuery}(h:QOk q):∃b,Z78_q q=some b:=by
 obtain⟨h1,h2,h3,h4⟩:=h;unfold Z78_q;cases hc:(decide ((8:Int)<((q.FOps.l.length:Nat):Int))||decide ((12:Int)<((q.FFrags.l.length:Nat):Int)))
 ·simp only [Bool.or_eq_false_iff,decide_eq_false_iff_not] at hc;obtain⟨b,h5,h6⟩:=large_ops q.FOps.l 0 h4 (by omega) (by omega);rw [cond_false,h5,Option.bind_some];cases b with
  | inl d =>
   obtain⟨h7,h8⟩:=h6 d rfl;obtain⟨b,h9⟩:=large_frags q.FFrags.l d h3 h7 (by omega);simp only [Ab.on,h9,Option.bind_some];cases b<;>exact⟨_,rfl⟩
  | inr e=>exact⟨_,rfl⟩
 ·exact⟨_,rfl⟩
end Go.Proofs

namespace Go.Proofs
open Go Go.Ab
theorem Z30_loop (a:TRef) (ha:a.FWraps.l.length<=1048576) (l:List Int) (i:Nat) (h:i+l.length=a.FWraps.l.length):Ok (Z30_q10 a l i):=by
 induction l generalizing i with
 | nil=>exact Tot.some _
 | cons x r ih =>
  simp only [List.length_cons] at h;have hr:=ih (i+1) (by omega);rw [Z30_q10];simp only [on];refine Tot.cond (fun _=>Tot.some _) fun _=>?_;by_cases hi:0<i
  ·have h1:decide ((0:Int)<((i:Nat):Int))=true:=by simpa using hi
   obtain⟨v,hv⟩:=idxC_ok (l:=a.FWraps.l) (n:=(i:Int)-1) (by omega);simp only [h1,cond_true,Bool.true_and,subC_ok (a:=(i:Int)) (b:=1) (by omega)];cases decide (x=1)<;>simp only [guardO,hv,if_true,Option.bind_some,Bool.false_eq_true,if_false,Bool.false_and,cond_false]
   ·exact hr
   ·(repeat' (first|exact Tot.some _|assumption|(with_reducible refine Tot.bind ?_ fun _ _=>?_)|(with_reducible refine Tot.guard (fun _=>?_) fun _ _ _=>?_)|(with_reducible refine Tot.cond (fun _=>?_) fun _=>?_)|(with_reducible refine Tot.on fun _ _=>?_)|split))
  ·have h1:decide ((0:Int)<((i:Nat):Int))=false:=by simpa using hi
   simp only [h1,Bool.false_and,guardO,Bool.false_eq_true,if_false,cond_false];exact hr
theorem Z30_ok (a:TRef) (ha:a.FWraps.l.length<=1048576):Ok (Z30_q a):=by
 unfold Z30_q
 (repeat' (first|exact Tot.some _|assumption|(with_reducible refine Tot.bind ?_ fun _ _=>?_)|(with_reducible refine Tot.guard (fun _=>?_) fun _ _ _=>?_)|(with_reducible refine Tot.cond (fun _=>?_) fun _=>?_)|(with_reducible refine Tot.on fun _ _=>?_)|split))
 exact Z30_loop a ha _ _ (by simp)
theorem Z22_loop (k:TValue->Option Int) (l:List TValue) (s:Int) (hk:∀x∈l,∃r,k x=some r/\1<=r/\r<=x.sz) (hs:0<=s) (hb:s+((l.map TValue.sz).sum:Nat)<=1152921504606846976):∃r,Z22_q7 k l s=some r/\s<=r/\r<=s+((l.map TValue.sz).sum:Nat):=by
 induction l generalizing s with
 | nil=>exact⟨s,rfl,by simp,by simp⟩
 | cons x r ih =>
  obtain⟨v,h1,h2,h3⟩:=hk x List.mem_cons_self;simp only [List.map_cons,List.sum_cons] at hb ⊢;rw [Z22_q7];simp only [on,h1,Option.bind_some];rw [addC_ok (by omega)];simp only [Option.bind_some];obtain⟨w,h4,h5,h6⟩:=ih (s+v) (fun y hy=>hk y (List.mem_cons_of_mem _ hy)) (by omega) (by omega);exact⟨w,h4,by omega,by omega⟩
theorem TValue.item_lt {v x:TValue}(h:x∈v.FItems.l):x.sz<v.sz:=by
 have h1:=v.sz_def; have h2:=Sl.mem_le (f:=TValue.sz) h; omega
theorem TValue.items_sum (v:TValue):2+(v.FItems.l.map TValue.sz).sum<=v.sz:=by
 have h1:=v.sz_def; have h2:Sl.sz TValue.sz v.FItems=1+(v.FItems.l.map TValue.sz).sum:=rfl; omega
theorem Z22_tot (n:Nat):∀v:TValue,v.sz<n->v.sz<=1073741824->∃r,Z22_qn n v=some r/\1<=r/\r<=v.sz:=by
 induction n with
 | zero=>intro v h; omega
 | succ n ih =>
  intro v h hb;have h0:=v.items_sum;obtain⟨w,h4,h5,h6⟩:=Z22_loop (Z22_qn n) v.FItems.l 1 (fun x hx=>by have:=TValue.item_lt hx; exact ih x (by omega) (by omega)) (by omega) (by omega);rw [Z22_qn,h4];exact⟨w,rfl,by omega,by omega⟩
theorem Z22_ok (v:TValue) (h:v.sz<=1048576):∃r,Z22_q v=some r/\1<=r/\r<=v.sz:=Z22_tot F0 v (by rw [F0_eq]; omega) (by omega)
theorem Z20_loop (k:TValue->Option Int) (l:List TValue) (s b:Int) (hk:∀x∈l,∃r,k x=some r/\1<=r/\r<=b) (hs:0<=s/\s<=b):∃r,Z20_q8 k l s=some r/\0<=r/\r<=b:=by
 induction l generalizing s with
 | nil=>exact⟨s,rfl,by omega,by omega⟩
 | cons x r ih =>
  obtain⟨v,h1,h2,h3⟩:=hk x List.mem_cons_self;rw [Z20_q8];simp only [on,h1,Option.bind_some];exact ih _ (fun y hy=>hk y (List.mem_cons_of_mem _ hy)) (by split<;>omega)
theorem Z20_tot (n:Nat):∀v:TValue,v.sz<n->v.sz<=1073741824->∃r,Z20_qn n v=some r/\1<=r/\r<=v.sz:=by
 induction n with
 | zero=>intro v h; omega
 | succ n ih =>
  intro v h hb;have h0:=v.items_sum;obtain⟨w,h4,h5,h6⟩:=Z20_loop (Z20_qn n) v.FItems.l 0 (v.sz-1:Nat) (fun x hx=>by have:=TValue.item_lt hx; obtain⟨r,h7,h8,h9⟩:=ih x (by omega) (by omega); exact⟨r,h7,h8,by omega⟩) (by omega);rw [Z20_qn,h4];simp only [on,Option.bind_some];rw [addC_ok (by omega)];exact⟨w+1,rfl,by omega,by omega⟩
theorem Z20_ok (v:TValue) (h:v.sz<=1048576):Ok (Z20_q v):=by
 obtain⟨r,hr,_⟩:=Z20_tot F0 v (by rw [F0_eq]; omega) (by omega); exact⟨r,hr⟩
theorem Z24_in (a:Sl Bs) (x:Bs) (m i:Nat) (h:i+m<=a.l.length):Ok (Z24_q13 a x m i):=by
 induction m generalizing i with
 | zero=>exact Tot.some _
 | succ m ih =>
  rw [Z24_q13]
  (repeat' (first|exact Tot.some _|assumption|(with_reducible refine Tot.bind ?_ fun _ _=>?_)|(with_reducible refine Tot.guard (fun _=>?_) fun _ _ _=>?_)|(with_reducible refine Tot.cond (fun _=>?_) fun _=>?_)|(with_reducible refine Tot.on fun _ _=>?_)|split))
  ·exact get_ok (by omega)
  ·exact ih _ (by omega)
theorem Z24_out (a:Sl Bs) (l:List Bs) (i:Nat) (h:i+l.length=a.l.length):Ok (Z24_q5 a l i):=by
 induction l generalizing i with
 | nil=>exact Tot.some _
 | cons x r ih =>
  simp only [List.length_cons] at h;rw [Z24_q5]
  (repeat' (first|exact Tot.some _|assumption|(with_reducible refine Tot.bind ?_ fun _ _=>?_)|(with_reducible refine Tot.guard (fun _=>?_) fun _ _ _=>?_)|(with_reducible refine Tot.cond (fun _=>?_) fun _=>?_)|(with_reducible refine Tot.on fun _ _=>?_)|split))
  ·exact Z24_in a x _ _ (by omega)
  ·exact ih _ (by omega)
theorem Z24_ok (a:Sl Bs):Ok (Z24_q a):=by
 unfold Z24_q
 (repeat' (first|exact Tot.some _|assumption|(with_reducible refine Tot.bind ?_ fun _ _=>?_)|(with_reducible refine Tot.guard (fun _=>?_) fun _ _ _=>?_)|(with_reducible refine Tot.cond (fun _=>?_) fun _=>?_)|(with_reducible refine Tot.on fun _ _=>?_)|split))
 exact Z24_out a _ _ (by simp)
theorem Z23_ok (v:TValue) (b:Bool):Ok (Z23_q v b):=by
 unfold Z23_q
 (repeat' (first|exact Tot.some _|assumption|(with_reducible refine Tot.bind ?_ fun _ _=>?_)|(with_reducible refine Tot.guard (fun _=>?_) fun _ _ _=>?_)|(with_reducible refine Tot.cond (fun _=>?_) fun _=>?_)|(with_reducible refine Tot.on fun _ _=>?_)|split))
 exact Z24_ok _
theorem Z25_loop (b:Bool) (k:TValue->Bool->Option Bool) (l:List TValue) (hk:∀x∈l,Ok (k x b)):Ok (Z25_q11 b k l):=by
 induction l with
 | nil=>exact Tot.some _
 | cons x r ih =>
  rw [Z25_q11]
  (repeat' (first|exact Tot.some _|assumption|(with_reducible refine Tot.bind ?_ fun _ _=>?_)|(with_reducible refine Tot.guard (fun _=>?_) fun _ _ _=>?_)|(with_reducible refine Tot.cond (fun _=>?_) fun _=>?_)|(with_reducible refine Tot.on fun _ _=>?_)|split))
  ·rename_i h; rw [h]; exact hk x List.mem_cons_self
  ·exact ih fun y hy=>hk y (List.mem_cons_of_mem _ hy)
theorem Z25_tot (n:Nat):∀(v:TValue) (b:Bool),v.sz<n->Ok (Z25_qn n v b):=by
 induction n with
 | zero=>intro v b h; omega
 | succ n ih =>
  intro v b h;rw [Z25_qn]
  (repeat' (first|exact Tot.some _|assumption|(with_reducible refine Tot.bind ?_ fun _ _=>?_)|(with_reducible refine Tot.guard (fun _=>?_) fun _ _ _=>?_)|(with_reducible refine Tot.cond (fun _=>?_) fun _=>?_)|(with_reducible refine Tot.on fun _ _=>?_)|split))
  ·exact Z23_ok _ _
  ·exact Z25_loop b _ _ fun x hx=>ih x b (by have:=TValue.item_lt hx; omega)
theorem Z21_ok (v:TValue) (h:v.sz<=1048576):Ok (Z21_q v):=by
 unfold Z21_q;obtain⟨r,hr,_⟩:=Z22_ok v h
 (repeat' (first|exact Tot.some _|assumption|(with_reducible refine Tot.bind ?_ fun _ _=>?_)|(with_reducible refine Tot.guard (fun _=>?_) fun _ _ _=>?_)|(with_reducible refine Tot.cond (fun _=>?_) fun _=>?_)|(with_reducible refine Tot.on fun _ _=>?_)|split))
 ·exact⟨r,hr⟩
 ·exact Z20_ok v h
 ·exact Z25_tot F0 v true (by rw [F0_eq]; omega)
end Go.Proofs

namespace Go.Proofs
open Go Go.Ab
theorem TRef.wraps_le (r:TRef):r.FWraps.l.length<=r.sz:=by have:=r.sz_def; have:=Sl.len_le (f:=fun _:Int=>1) r.FWraps (fun _=>Nat.le_refl _); omega
theorem TArg.value_le (a:TArg):a.FValue.sz<=a.sz:=by have:=a.sz_def; omega
theorem Z36_loop (k:TValue->Option Bool) (l:List TValue) (hk:∀x∈l,Ok (k x)):Ok (Z36_q5 k l):=by
 induction l with
 | nil=>exact Tot.some _
 | cons x r ih =>
  rw [Z36_q5]
  (repeat' (first|exact Tot.some _|assumption|(with_reducible refine Tot.bind ?_ fun _ _=>?_)|(with_reducible refine Tot.guard (fun _=>?_) fun _ _ _=>?_)|(with_reducible refine Tot.cond (fun _=>?_) fun _=>?_)|(with_reducible refine Tot.on fun _ _=>?_)|split))
  ·rename_i h; rw [h]; exact hk x List.mem_cons_self
  ·exact ih fun y hy=>hk y (List.mem_cons_of_mem _ hy)
theorem Z36_tot (n:Nat):∀(v:TValue),v.sz<n->Ok (Z36_qn n v):=by
 induction n with
 | zero=>intro v h; omega
 | succ n ih =>
  intro v h;rw [Z36_qn]
  (repeat' (first|exact Tot.some _|assumption|(with_reducible refine Tot.bind ?_ fun _ _=>?_)|(with_reducible refine Tot.guard (fun _=>?_) fun _ _ _=>?_)|(with_reducible refine Tot.cond (fun _=>?_) fun _=>?_)|(with_reducible refine Tot.on fun _ _=>?_)|split))
  exact Z36_loop _ _ fun x hx=>ih x (by have:=TValue.item_lt hx; omega)
theorem Z36_ok (v:TValue) (h:v.sz<=1048576):Ok (Z36_q v):=Z36_tot F0 v (by rw [F0_eq]; omega)
theorem Z40_loop (l:List TVar) (h:∀a∈l,a.sz<=1048576):Ok (Z40_q6 l):=by
 induction l with
 | nil=>exact Tot.some _
 | cons x r ih =>
  have h1:=h x List.mem_cons_self; have h2:=x.sz_def; have h3:=x.FType.wraps_le;have hr:=ih fun y hy=>h y (List.mem_cons_of_mem _ hy);rw [Z40_q6]
  (repeat' (first|exact Tot.some _|assumption|(with_reducible refine Tot.bind ?_ fun _ _=>?_)|(with_reducible refine Tot.guard (fun _=>?_) fun _ _ _=>?_)|(with_reducible refine Tot.cond (fun _=>?_) fun _=>?_)|(with_reducible refine Tot.on fun _ _=>?_)|split))
  all_goals (subst_vars; first|exact Z30_ok _ (by omega)|exact Z21_ok _ (by omega)|exact Z36_ok _ (by omega))
theorem Z40_ok (s:Sl TVar) (h:Sl.sz TVar.sz s<=1048576):Ok (Z40_q s):=by
 unfold Z40_q
 (repeat' (first|exact Tot.some _|assumption|(with_reducible refine Tot.bind ?_ fun _ _=>?_)|(with_reducible refine Tot.guard (fun _=>?_) fun _ _ _=>?_)|(with_reducible refine Tot.cond (fun _=>?_) fun _=>?_)|(with_reducible refine Tot.on fun _ _=>?_)|split))
 exact Z40_loop _ fun a ha=>by have:=Sl.mem_le (f:=TVar.sz) ha; omega
theorem Z35_loop (l:List TArg) (h:∀a∈l,a.sz<=1048576):Ok (Z35_q6 l):=by
 induction l with
 | nil=>exact Tot.some _
 | cons x r ih =>
  have h1:=h x List.mem_cons_self; have h2:=x.value_le;have hr:=ih fun y hy=>h y (List.mem_cons_of_mem _ hy);obtain⟨b,e⟩:=Z21_ok x.FValue (by omega);rw [Z35_q6];simp only [on];cases Z16_q x.FName<;>simp only [guardO,e,Bool.not_true,Bool.not_false,cond_true,cond_false,Bool.or_false,Bool.or_true,Bool.true_or,Bool.false_or,if_true,Bool.false_eq_true,if_false,Option.bind_some]
  ·exact Tot.some _
  ·(repeat' (first|exact Tot.some _|assumption|(with_reducible refine Tot.bind ?_ fun _ _=>?_)|(with_reducible refine Tot.guard (fun _=>?_) fun _ _ _=>?_)|(with_reducible refine Tot.cond (fun _=>?_) fun _=>?_)|(with_reducible refine Tot.on fun _ _=>?_)|split))
theorem Z35_ok (s:Sl TArg) (h:Sl.sz TArg.sz s<=1048576):Ok (Z35_q s):=by
 unfold Z35_q
 (repeat' (first|exact Tot.some _|assumption|(with_reducible refine Tot.bind ?_ fun _ _=>?_)|(with_reducible refine Tot.guard (fun _=>?_) fun _ _ _=>?_)|(with_reducible refine Tot.cond (fun _=>?_) fun _=>?_)|(with_reducible refine Tot.on fun _ _=>?_)|split))
 exact Z35_loop _ fun a ha=>by have:=Sl.mem_le (f:=TArg.sz) ha; omega
theorem Z37_loop (l:List TDir) (h:∀a∈l,a.sz<=1048576):Ok (Z37_q6 l):=by
 induction l with
 | nil=>exact Tot.some _
 | cons x r ih =>
  have h1:=h x List.mem_cons_self; have h2:=x.sz_def;have hr:=ih fun y hy=>h y (List.mem_cons_of_mem _ hy);obtain⟨b,e⟩:=Z35_ok x.FArgs (by omega);rw [Z37_q6];simp only [on];cases Z16_q x.FName<;>simp only [guardO,e,Bool.not_true,Bool.not_false,cond_true,cond_false,Bool.or_false,Bool.or_true,Bool.true_or,Bool.false_or,if_true,Bool.false_eq_true,if_false,Option.bind_some]
  ·exact Tot.some _
  ·(repeat' (first|exact Tot.some _|assumption|(with_reducible refine Tot.bind ?_ fun _ _=>?_)|(with_reducible refine Tot.guard (fun _=>?_) fun _ _ _=>?_)|(with_reducible refine Tot.cond (fun _=>?_) fun _=>?_)|(with_reducible refine Tot.on fun _ _=>?_)|split))
theorem Z37_ok (s:Sl TDir) (h:Sl.sz TDir.sz s<=1048576):Ok (Z37_q s):=by
 unfold Z37_q
 (repeat' (first|exact Tot.some _|assumption|(with_reducible refine Tot.bind ?_ fun _ _=>?_)|(with_reducible refine Tot.guard (fun _=>?_) fun _ _ _=>?_)|(with_reducible refine Tot.cond (fun _=>?_) fun _=>?_)|(with_reducible refine Tot.on fun _ _=>?_)|split))
 exact Z37_loop _ fun a ha=>by have:=Sl.mem_le (f:=TDir.sz) ha; omega
theorem r08_sels_loop (i:Int) (k:TSel->Int->Option Bool) (l:List TSel) (hk:∀x∈l,Ok (k x i)):Ok (r08_selsRight_q10 i k l):=by
 induction l with
 | nil=>exact Tot.some _
 | cons x r ih =>
  have hr:=ih fun y hy=>hk y (List.mem_cons_of_mem _ hy);rw [r08_selsRight_q10]
  (repeat' (first|exact Tot.some _|assumption|(with_reducible refine Tot.bind ?_ fun _ _=>?_)|(with_reducible refine Tot.guard (fun _=>?_) fun _ _ _=>?_)|(with_reducible refine Tot.cond (fun _=>?_) fun _=>?_)|(with_reducible refine Tot.on fun _ _=>?_)|split))
  rename_i h; rw [h]; exact hk x List.mem_cons_self
theorem TSel.sub_lt (s:TSel):Sl.sz TSel.sz s.FSels<s.sz:=by
 have h1:=s.sz_def; have:=Bs.sz_pos s.FAlias; omega
theorem r08_sels_tot (n:Nat):(∀(s:Sl TSel) (i:Int),Sl.sz TSel.sz s<=1048576->2*Sl.sz TSel.sz s<n->0<=i->i<=25->Ok (r08_selsRight_qn n s i))/\(∀(s:TSel) (i:Int),s.sz<=1048576->2*s.sz<n->0<=i->i<=24->Ok (Z38_qn n s i)):=by
 induction n with
 | zero=>exact⟨fun s i _ h=>by omega,fun s i _ h=>by omega⟩
 | succ n ih =>
  refine⟨fun s i hs h h0 h1=>?_,fun s i hs h h0 h1=>?_⟩
  ·rw [r08_selsRight_qn];refine Tot.cond (fun _=>Tot.some _) fun hc=>?_;simp only [Bool.or_eq_false_iff,decide_eq_false_iff_not] at hc
   (repeat' (first|exact Tot.some _|assumption|(with_reducible refine Tot.bind ?_ fun _ _=>?_)|(with_reducible refine Tot.guard (fun _=>?_) fun _ _ _=>?_)|(with_reducible refine Tot.cond (fun _=>?_) fun _=>?_)|(with_reducible refine Tot.on fun _ _=>?_)|split))
   exact r08_sels_loop _ _ _ fun x hx=>ih.2 x i (by have:=Sl.mem_le (f:=TSel.sz) hx; omega) (by have:=Sl.mem_le (f:=TSel.sz) hx; omega) h0 (by omega)
  ·have h2:=s.sz_def;have h3:=s.sub_lt;obtain⟨b1,e1⟩:=Z37_ok s.FDirs (by omega);obtain⟨b2,e2⟩:=Z35_ok s.FArgs (by omega);obtain⟨b3,e3⟩:=ih.1 s.FSels (i+1) (by omega) (by omega) (by omega) (by omega);rw [Z38_qn]
   (repeat' (first|exact Tot.some _|assumption|(with_reducible refine Tot.bind ?_ fun _ _=>?_)|(with_reducible refine Tot.guard (fun _=>?_) fun _ _ _=>?_)|(with_reducible refine Tot.cond (fun _=>?_) fun _=>?_)|(with_reducible refine Tot.on fun _ _=>?_)|split))
   all_goals first
    | exact⟨_,e1⟩|exact⟨_,e2⟩|exact⟨_,e3⟩
    | (rw [addC_ok (by omega)]; exact Tot.some _)
    | (rename_i hg _ hv _; have h9:=hv hg; rw [addC_ok (by omega)] at h9; obtain rfl:=Option.some.inj h9; exact⟨_,e3⟩)
    | (rename_i hv; rw [addC_ok (by omega)] at hv; obtain rfl:=Option.some.inj hv; exact⟨_,e3⟩)
    | (rename_i hv _ hg; have h9:=hv hg; rw [addC_ok (by omega)] at h9; obtain rfl:=Option.some.inj h9; exact⟨_,e3⟩)
    | (rename_i hv _ _ hg; have h9:=hv hg; rw [addC_ok (by omega)] at h9; obtain rfl:=Option.some.inj h9; exact⟨_,e3⟩)
theorem r08_selsRight_ok (s:Sl TSel) (h:Sl.sz TSel.sz s<=1048576):Ok (r08_selsRight_q s 1):=(r08_sels_tot F0).1 s 1 h (by rw [F0_eq]; omega) (by omega) (by omega)
theorem Z34_ops (l:List TOp) (h:∀a∈l,a.sz<=1048576):Ok (Z34_q30 l):=by
 induction l with
 | nil=>exact Tot.some _
 | cons x r ih =>
  have h1:=h x List.mem_cons_self; have h2:=x.sz_def;have hr:=ih fun y hy=>h y (List.mem_cons_of_mem _ hy);rw [Z34_q30]
  (repeat' (first|exact Tot.some _|assumption|(with_reducible refine Tot.bind ?_ fun _ _=>?_)|(with_reducible refine Tot.guard (fun _=>?_) fun _ _ _=>?_)|(with_reducible refine Tot.cond (fun _=>?_) fun _=>?_)|(with_reducible refine Tot.on fun _ _=>?_)|split))
  all_goals (subst_vars; first|exact Z40_ok _ (by omega)|exact r08_selsRight_ok _ (by omega))
theorem Z34_frags (l:List TFrag) (h:∀a∈l,a.sz<=1048576):Ok (Z34_q14 l):=by
 induction l with
 | nil=>exact Tot.some _
 | cons x r ih =>
  have h1:=h x List.mem_cons_self; have h2:=x.sz_def;have hr:=ih fun y hy=>h y (List.mem_cons_of_mem _ hy);rw [Z34_q14]
  (repeat' (first|exact Tot.some _|assumption|(with_reducible refine Tot.bind ?_ fun _ _=>?_)|(with_reducible refine Tot.guard (fun _=>?_) fun _ _ _=>?_)|(with_reducible refine Tot.cond (fun _=>?_) fun _=>?_)|(with_reducible refine Tot.on fun _ _=>?_)|split))
  all_goals (subst_vars; first|exact r08_selsRight_ok _ (by omega))
theorem TQuery.op_le {d:TQuery}{x:TOp}(h:x∈d.FOps.l):x.sz<=d.sz:=by have:=d.sz_def; have:=Sl.mem_le (f:=TOp.sz) h; omega
theorem TQuery.frag_le {d:TQuery}{x:TFrag}(h:x∈d.FFrags.l):x.sz<=d.sz:=by have:=d.sz_def; have:=Sl.mem_le (f:=TFrag.sz) h; omega
theorem TQuery.lens (d:TQuery):d.FOps.l.length<=d.sz/\d.FFrags.l.length<=d.sz:=by
 have h1:=d.sz_def; have h2:=Sl.len_lt (f:=TOp.sz) d.FOps TOp.pos; have h3:=Sl.len_lt (f:=TFrag.sz) d.FFrags TFrag.pos; omega
theorem Z34_ok (q:TQuery) (h:q.sz<=1048576):Ok (Z34_q q):=by
 have hl:=q.lens;unfold Z34_q;rw [addC_ok (by omega)]
 (repeat' (first|exact Tot.some _|assumption|(with_reducible refine Tot.bind ?_ fun _ _=>?_)|(with_reducible refine Tot.guard (fun _=>?_) fun _ _ _=>?_)|(with_reducible refine Tot.cond (fun _=>?_) fun _=>?_)|(with_reducible refine Tot.on fun _ _=>?_)|split))
 ·exact Z34_ops _ fun a ha=>by have:=TQuery.op_le ha; omega
 ·exact Z34_frags _ fun a ha=>by have:=TQuery.frag_le ha; omega
end Go.Proofs

namespace Go.Proofs
open Go Go.Ab
theorem fits16_ok {d:TDoc}{q:TQuery}(hd:d.sz<=1048576) (hq:q.sz<=1048576):∃b,Z15 d q=some b:=by
 rw [Z15_eq];unfold Z15_q;have hl:d.FDefs.l.length<=1048576:=by
  have h1:=d.sz_def;have h2:=Sl.len_le (f:=TDef.sz) d.FDefs (fun x=>TDef.pos x);omega
 obtain⟨L,hL,hL2⟩:=large10 hd;rw [hL,Option.bind_some];cases L
 ·show Ok _;refine Tot.guard (fun _=>large_tot (qOk hq)) fun x4 _ _=>?_;refine Tot.guard (fun _=>Z34_ok q hq) fun x5 _ _=>?_;refine Tot.guard (fun _=>?_) fun x6 _ _=>?_
  ·obtain⟨r,h,-⟩:=check_tl hd false; exact⟨r,h⟩
  refine Tot.guard (fun _=>faces_tl hd (hL2 rfl)) fun x7 _ _=>?_;refine Tot.guard (fun _=>?_) fun x8 _ _=>?_
  ·obtain⟨r,h,-⟩:=check13_tl hl hq; exact⟨r,h⟩
  exact Tot.some _
 ·exact⟨_,rfl⟩
end Go.Proofs

namespace Go.Proofs
open Go Go.Ab
def bB:Nat:=549755813888
def Wv:Nat->TValue->Prop
 | 0,_=>False
 | n+1,v=>(-9223372036854775808<=v.FInt/\v.FInt<=9223372036854775807)/\(v.FKeys.nl=true->v.FKeys.l=[])/\v.FKeys.l.length<=bB/\v.FItems.l.length<=bB/\∀x∈v.FItems.l,Wv n x
theorem Wv.mono:∀{n m:Nat}{v:TValue},n<=m->Wv n v->Wv m v
 | 0,_,_,_,h=>h.elim
 | n+1,0,_,hn,_=>by omega
 | n+1,m+1,v,hn,⟨a,b,c,d,e⟩=>⟨a,b,c,d,fun x hx=>Wv.mono (by omega) (e x hx)⟩
theorem appC80 {α:Type}{s r:Sl α}(h:s.l.length+r.l.length<=1099511627776):appC 80 s r=some ⟨s.nl&&r.l.isEmpty,s.l++r.l⟩:=by
 unfold appC; rw [if_pos];have:(s.l.length+r.l.length)*80<=1099511627776*80:=Nat.mul_le_mul_right _ h;unfold maxN; omega
theorem cloneS_eq {s:Sl Bs}(h:s.nl=true->s.l=[]) (hl:s.l.length<=bB):∃r,Z100_q s=some r/\r.l=s.l/\(r.nl=true->r.l=[]):=by
 unfold Z100_q;unfold bB at hl;cases hn:s.nl with
 | true=>exact⟨Sl.nil,rfl,(h hn).symm,fun _=>rfl⟩
 | false=>rw [cond_false,appC_ok32 (by omega) (by simp; omega)]; exact⟨_,rfl,by simp,fun e=>by simp at e⟩
theorem copy_tot:∀(n:Nat){v:TValue},Wv n v->∀m,2*n<=m->∃r,value_Copy_qn m v=some r/\Wv n r/\r.FKind=v.FKind
 | 0,_,h,_,_=>h.elim
 | n+1,v,⟨h2,h5,h6,h7,h9⟩,m,hm=>by
  obtain⟨m1,rfl⟩:∃m1,m=m1+1+1:=⟨m-2,by omega⟩;have hl:∀(l:List TValue) (s:Sl TValue),(∀x∈l,Wv n x)->(∀x∈s.l,Wv n x)->s.l.length+l.length<=bB->∃s':Sl TValue,Z125_q8 (value_Copy_qn m1) l s=some s'/\(∀x∈s'.l,Wv n x)/\s'.l.length=s.l.length+l.length:=by
   intro l;induction l with
   | nil=>intro s _ hs _; exact⟨s,rfl,hs,rfl⟩
   | cons a t ih =>
    intro s hl hs hb;obtain⟨r,hr,hr',-⟩:=copy_tot n (hl a (.head _)) m1 (by omega);rw [Z125_q8];simp only [Ab.on,hr,Option.bind_some];simp only [List.length_cons] at hb;rw [appC80 (by unfold bB at hb; simp; omega),Option.bind_some];obtain⟨s',e1,e2,e3⟩:=ih ⟨s.nl&&[r].isEmpty,s.l++[r]⟩ (fun x hx=>hl x (.tail _ hx)) (fun x hx=>by
     rcases List.mem_append.1 hx with hx|hx
     ·exact hs x hx
     ·rw [List.mem_singleton.1 hx]; exact hr') (by simp; omega)
    exact⟨s',e1,e2,by rw [e3]; simp; omega⟩
  obtain⟨s',e1,e2,e0⟩:=hl v.FItems.l Sl.nil h9 (fun _ h=>by cases h) (by simpa [Sl.nil] using h7);obtain⟨k,e3,e4,e5⟩:=cloneS_eq h5 h6;rw [value_Copy_qn,Z125_qn,e1,Option.bind_some];simp only [Ab.on,Option.bind_some,e3];refine⟨_,rfl,⟨h2,e5, ?_, ?_,e2⟩,rfl⟩
  ·show k.l.length<=_; rw [e4]; exact h6
  ·show s'.l.length<=_; rw [e0]; simpa [Sl.nil] using h7
theorem copy_ok {n:Nat}(hn:n<=1073741824){v:TValue}(h:Wv n v):∃r,value_Copy_q v=some r/\Wv n r/\r.FKind=v.FKind:=copy_tot n h F0 (by rw [F0_eq]; omega)
theorem Wv.of:∀(n:Nat) (v:TValue),v.sz<=n->v.sz<=1048576->v.wf->Wv n v
 | 0,v,h,_,_=>by have:=TValue.pos v; omega
 | n+1,v,h,h2,hw=>by
  have h1:=v.sz_def;have h3:=Sl.len_le (f:=TValue.sz) v.FItems (fun x=>TValue.pos x);have h4:=Sl.len_le (f:=Bs.sz) v.FKeys (fun x=>Bs.sz_pos x);refine⟨?_, ?_, ?_, ?_,fun x hx=>?_⟩
  ·have:=TValue.FInt_wf hw; unfold i64 at this; omega
  ·exact(TValue.FKeys_wf hw).1
  ·unfold bB; omega
  ·unfold bB; omega
  ·have h5:=Sl.mem_le (f:=TValue.sz) hx;exact Wv.of n x (by omega) (by omega) ((TValue.FItems_wf hw).2.2 x hx)
end Go.Proofs

namespace Go.Proofs
open Go Go.Ab
def zvT:TValue:=TValue.mk (0:Int) (0:Int) ([]:Bs) true ([]) (Sl.nil:Sl Bs)
theorem zvT_w:Wv 1 zvT:=⟨⟨by decide,by decide⟩,fun _=>rfl,by show 0<=_; omega,by show 0<=_; omega,fun _ h=>by cases h⟩
theorem get_tot {n:Nat}{v:TValue}(h:Wv (n+1) v) (hn:n<=1073741824) (s:Bs):∃x b,Z123_q v s=some (x,b)/\((b=true/\Wv n x)\/(b=false/\x=zvT)):=by
 unfold Z123_q;simp only [Ab.on];generalize Z108_q v.FKeys s=i;cases hc:(((!decide (v.FKind=(6:Int)))||(decide (i<(0:Int))))||(decide (((v.FItems.l.length:Nat):Int)<=i)))
 ·simp only [Bool.or_eq_false_iff,decide_eq_false_iff_not] at hc;obtain⟨⟨-,h0⟩,h1⟩:=hc;have hi:i.toNat<v.FItems.l.length:=by omega
  have hidx:idxC v.FItems.l i=some (v.FItems.l[i.toNat]):=by
   unfold idxC; rw [if_pos (by omega),List.getElem?_eq_getElem hi]
  obtain⟨r,h2,h3,-⟩:=copy_ok hn (h.2.2.2.2 _ (List.getElem_mem hi));rw [cond_false,hidx,Option.bind_some,h2];exact⟨r,true,rfl,.inl ⟨rfl,h3⟩⟩
 ·exact⟨zvT,false,rfl,.inr ⟨rfl,rfl⟩⟩
theorem missing_tot {n:Nat}{c:Coerce_coercer}(h:Wv (n+1) c.Fvars) (hn:n<=1073741824) (v:TValue):∃b,Z4_q c v=some b:=by
 unfold Z4_q;cases ((!decide (v.FKind=(7:Int)))||(!c.Fliteral))
 ·obtain⟨x,b,e,-⟩:=get_tot h hn v.FText;rw [cond_false,e]; exact⟨_,rfl⟩
 ·exact⟨_,rfl⟩
def Cq (c c':Coerce_coercer) (e:Int):Prop:=c'.Fd=c.Fd/\c'.Fvars=c.Fvars/\c'.Fliteral=c.Fliteral/\0<=c'.Fnodes/\(e=0->c'.Fnodes<=4096)
def Cs (c:Coerce_coercer):Prop:=0<=c.Fnodes/\c.Fnodes<=4096
theorem Cq.trans {a b c:Coerce_coercer}{e e':Int}(h:Cq a b e) (h':Cq b c e'):Cq a c e':=⟨h'.1.trans h.1,h'.2.1.trans h.2.1,h'.2.2.1.trans h.2.2.1,h'.2.2.2.1,h'.2.2.2.2⟩
theorem count_tot12 {c:Coerce_coercer}(h:Cs c) (l:Int):∃e c',Z1_q c l=some (e,c')/\Cq c c' e/\(e=0->l<=24):=by
 unfold Z1_q;unfold Cs at h;by_cases hl:24<l
 ·rw [decide_eq_true hl];exact⟨5,c,rfl,⟨rfl,rfl,rfl,h.1,fun h=>by cases h⟩,fun h=>by cases h⟩
 ·rw [decide_eq_false hl,cond_false,addC_ok (by omega),Option.bind_some];by_cases h4:4096<c.Fnodes+1
  ·rw [decide_eq_true h4];exact⟨4,_,rfl,⟨rfl,rfl,rfl,by show 0<=c.Fnodes+1; omega,fun h=>by cases h⟩,fun h=>by cases h⟩
  ·rw [decide_eq_false h4];exact⟨0,_,rfl,⟨rfl,rfl,rfl,by show 0<=c.Fnodes+1; omega,fun _=>by show c.Fnodes+1<=4096; omega⟩,fun _=>by omega⟩
theorem whole_tot:∀(n:Nat) (c:Coerce_coercer) (v:TValue) (l:Int),Cs c -> -1000<=l->(25-l)<(n:Int)->0<n->∃e c',Z7_qn n c v l=some (e,c')/\Cq c c' e
 | 0,_,_,_,_,_,_,h=>by omega
 | n+1,c,v,l,hc,h0,hn,_=>by
  obtain⟨e,c1,h1,h2,h3⟩:=count_tot12 hc l;rw [Z7_qn,h1,Option.bind_some];by_cases he:e=0
  ·have hl:=h3 he;rw [decide_eq_true he,Bool.not_true,cond_false];have loop:∀(t:List TValue) (b:Coerce_coercer),Cs b->∃o,Z7_q13 l (Z7_qn n) t b=some o/\(match o with|Sum.inl c'=>Cq b c' 0|Sum.inr p=>Cq b p.2 p.1):=by
    intro t;induction t with
    | nil=>intro b hb; exact⟨_,rfl,⟨rfl,rfl,rfl,hb.1,fun _=>hb.2⟩⟩
    | cons x r ih =>
     intro b hb;rw [Z7_q13];simp only [Ab.on];rw [addC_ok (by omega),Option.bind_some];obtain⟨e2,c2,g1,g2⟩:=whole_tot n b x (l+1) hb (by omega) (by omega) (by omega);rw [g1,Option.bind_some];by_cases he2:e2=0
     ·rw [decide_eq_true he2,Bool.not_true,cond_false];obtain⟨o,o1,o2⟩:=ih c2 ⟨g2.2.2.2.1,g2.2.2.2.2 he2⟩;refine⟨o,o1, ?_⟩;cases o with
      | inl c'=>exact g2.trans o2
      | inr p=>exact g2.trans o2
     ·rw [decide_eq_false he2];exact⟨_,rfl,g2⟩
   obtain⟨o,o1,o2⟩:=loop v.FItems.l c1 ⟨h2.2.2.2.1,h2.2.2.2.2 he⟩;rw [o1,Option.bind_some];cases o with
   | inl c'=>exact⟨0,c',rfl,h2.trans o2⟩
   | inr p=>exact⟨p.1,p.2,rfl,h2.trans o2⟩
  ·rw [decide_eq_false he];exact⟨e,c1,rfl,h2⟩
end Go.Proofs

namespace Go.Proofs
open Go Go.Ab
theorem dlen:∀(f u:Nat),u<10 ^ f->(Lib.decDigits u).length<=f+1:=by
 intro f;induction f with
 | zero =>
  intro u hu;have:u=0:=by simpa using hu
  subst this; rw [Lib.decDigits]; simp
 | succ f ih =>
  intro u hu;rw [Lib.decDigits]
  split
  ·simp
  ·have:=ih (u / 10) (by rw [Nat.pow_succ] at hu; omega);simp; omega
theorem dlen20 {u:Nat}(h:u<=9223372036854775808):(Lib.decDigits u).length<=21:=dlen 20 u (by omega)
theorem itoaLen {n:Int}(h0 : -9223372036854775808<=n) (h1:n<=9223372036854775807):(Lib.itoa n).length<=22:=by
 unfold Lib.itoa
 split
 ·have:=dlen20 (u:=n.natAbs) (by omega); simp; omega
 ·have:=dlen20 (u:=n.toNat) (by omega); omega
theorem decimal_ok {n:Int}(h0 : -9223372036854775808<=n) (h1:n<=9223372036854775807):∃r,Z110_q n=some r:=by
 unfold Z110_q Z109_q Z109;rw [if_pos ⟨h0,h1,by have:=itoaLen h0 h1; unfold maxS; omega⟩];exact⟨_,rfl⟩
theorem Wv.kind {n:Nat}{v:TValue}(h:Wv (n+1) v) (k:Int):Wv (n+1) ⟨k,v.FInt,v.FText,v.FItems.nl,v.FItems.l,v.FKeys⟩:=h
theorem Wv.text (n:Nat) (s:Bs):Wv (n+1) (Z124_q s):=⟨⟨by show (-9223372036854775808:Int)<=0; decide,by show (0:Int)<=9223372036854775807; decide⟩,fun _=>rfl,by show 0<=_; omega,by show 0<=_; omega,fun _ h=>by cases h⟩
theorem leaf_tot {n:Nat}{v:TValue}(h:Wv (n+1) v) (c:Coerce_coercer) (nm:Bs):∃x e,Z2_q c nm v=some (x,e)/\Wv (n+1) x:=by
 have z:Wv (n+1) zvT:=zvT_w.mono (by omega);have fin:∀(b:Bool) (x:TValue),Wv (n+1) x->∃y e,(bif (!b) then(some (zvT,(23:Int))) else(some (x,(0:Int))))=some (y,e)/\Wv (n+1) y:=by
  intro b x hx;cases b
  ·exact⟨zvT,23,rfl,z⟩
  ·exact⟨x,0,rfl,hx⟩
 unfold Z2_q;simp only [Ab.on];cases (nm==([73,110,116]:Bs))
 ·cases (nm==([83,116,114,105,110,103]:Bs))
  ·cases (nm==([66,111,111,108,101,97,110]:Bs))
   ·cases (nm==([73,68]:Bs))
    ·simp only [cond_false];have last:∀(w:TValue) (b:Bool),Wv (n+1) w->∃y e,(bif (!b) then(some (zvT,(23:Int))) else(some (w,(0:Int))))=some (y,e)/\Wv (n+1) y:=fun w b hw=>fin b w hw;cases (decide (v.FKind=(3:Int))&&(!c.Fliteral))
     ·exact last v _ h
     ·exact last _ _ (h.kind 4)
    ·simp only [cond_false,cond_true];cases decide (v.FKind=(2:Int))
     ·exact fin _ v h
     ·obtain⟨r,hr⟩:=decimal_ok h.1.1 h.1.2;rw [cond_true,hr,Option.bind_some,Option.bind_some];exact fin _ _ (Wv.text n r)
   ·exact fin _ v h
  ·exact fin _ v h
 ·exact fin _ v h
end Go.Proofs

namespace Go.Proofs
open Go Go.Ab
def nnW (w:List Int):Bool:=w.head?==some 1
def liW (w:List Int):Bool:=w.head?==some 2
def barS (s:Sl Int):Sl Int:=bif nnW s.l then⟨s.nl,s.l.drop 1⟩ else s
def bar (t:TRef):TRef:=⟨t.FName,barS t.FWraps⟩
def innerT (t:TRef):TRef:=⟨t.FName,⟨(barS t.FWraps).nl,(barS t.FWraps).l.drop 1⟩⟩
theorem clone_eq {s:Sl Int}(h:SOk s):Z99_q s=some s:=by
 unfold Z99_q;obtain⟨nl,l⟩:=s;cases nl with
 | true=>have:=h.1 rfl; simp only at this; subst this; rfl
 | false =>
  simp only [cond_false];rw [appC_ok (by omega) (by have:=h.2; simp at this ⊢; omega)];simp
theorem isNonNull_eq (t:TRef):Z114_q t=nnW t.FWraps.l:=by
 unfold Z114_q nnW on;cases t.FWraps.l with
 | nil=>rfl
 | cons a r=>simp; by_cases h:a=1<;>simp [h]
theorem head_one {w:List Int}(h:nnW w=true):1<=w.length:=by cases w<;>simp [nnW] at h ⊢
theorem sok_drop {α:Type}{s:Sl α}(n:Nat) (h:SOk s):SOk ⟨s.nl,s.l.drop n⟩:=⟨fun e=>by simp [h.1 e],by have:=h.2; simp; omega⟩
theorem barS_ok {s:Sl Int}(h:SOk s):SOk (barS s):=by
 unfold barS;cases nnW s.l with
 | true=>exact sok_drop 1 h
 | false=>exact h
theorem innerT_ok {t:TRef}(h:SOk t.FWraps):SOk (innerT t).FWraps:=sok_drop 1 (barS_ok h)
theorem nullable_eq {t:TRef}(h:SOk t.FWraps):Z117_q t=some (bar t):=by
 unfold Z117_q bar barS on;simp only [isNonNull_eq];cases hn:nnW t.FWraps.l with
 | true =>
  simp only [cond_true];rw [partC_tail (head_one hn)];simp only [Option.bind_some];rw [clone_eq (sok_drop 1 h)]; rfl
 | false =>
  simp only [cond_false,Option.bind_some];rw [clone_eq h]; rfl
theorem isList_eq {t:TRef}(h:SOk t.FWraps):Z113_q t=some (liW (barS t.FWraps).l):=by
 unfold Z113_q;rw [nullable_eq h];simp only [Option.bind_some,on,bar,liW];cases (barS t.FWraps).l with
 | nil=>rfl
 | cons a r=>simp; by_cases h:a=2<;>simp [h]
theorem list_one {w:List Int}(h:liW w=true):1<=w.length:=by cases w<;>simp [liW] at h ⊢
theorem inner_eq {t:TRef}(h:SOk t.FWraps):Z112_q t=some (bif liW (barS t.FWraps).l then(innerT t,true) else(⟨[],Sl.nil⟩,false)):=by
 unfold Z112_q;rw [isList_eq h];simp only [Option.bind_some];cases hl:liW (barS t.FWraps).l with
 | false=>rfl
 | true =>
  simp only [Bool.not_true,cond_false,cond_true];rw [nullable_eq h];simp only [Option.bind_some,bar];rw [partC_tail (list_one hl)];rfl
end Go.Proofs

namespace Go.Proofs
open Go Go.Ab
def lvM (N:Nat) (l:Int):Nat:=N+(27-l).toNat
theorem lvM_succ (N:Nat){l:Int}(h:l<=24):lvM N l=lvM N (l+1)+1:=by unfold lvM; omega
def GoodC (N:Nat) (d:TDoc) (c:Coerce_coercer):Prop:=c.Fd=d/\Wv N c.Fvars/\Cs c
theorem GoodC.step {N:Nat}{d:TDoc}{c c':Coerce_coercer}(h:GoodC N d c) (hq:Cq c c' 0):GoodC N d c' :=
 ⟨hq.1.trans h.1,by rw [hq.2.1]; exact h.2.1,hq.2.2.2.1,hq.2.2.2.2 rfl⟩
def OutT (N:Nat) (l:Int) (c:Coerce_coercer) (o:Option (TValue×Int×Coerce_coercer)):Prop:=∃x e c',o=some (x,e,c')/\Cq c c' e/\Wv (lvM N l) x
def AtT (N:Nat) (d:TDoc) (n:Nat) (l:Int):Prop:=∀c t v,GoodC N d c->SOk t.FWraps->Wv N v->OutT N l c (coerce_coercer_at_qn n c t v l)
theorem zvT_M {N:Nat}{l:Int}(h:1<=N):Wv (lvM N l) zvT:=zvT_w.mono (by unfold lvM; omega)
theorem list_tot {N:Nat}{d:TDoc}{n:Nat}{l:Int}(hN:1<=N) (h0 : -1000<=l) (hl:l<=24) (hA:AtT N d n (l+1)) (c:Coerce_coercer) (t:TRef) (v:TValue) (hc:GoodC N d c) (ht:SOk t.FWraps) (hv:Wv N v):OutT N l c (coerce_coercer_list_qn (n+1) c t v l):=by
 obtain⟨N1,rfl⟩:∃k,N=k+1:=⟨N-1,by omega⟩;have loop:∀(r:List TValue) (b:Coerce_coercer) (y:TValue),(∀x∈r,Wv (N1+1) x)->GoodC (N1+1) d b->(∀x∈y.FItems.l,Wv (lvM (N1+1) (l+1)) x)->y.FItems.l.length+r.length<=bB ->
   ∃o,coerce_coercer_list_q14 t l (coerce_coercer_at_qn n) r b y=some o/\(match o with
    | Sum.inl p=>Cq b p.1 0/\p.2.FInt=y.FInt/\p.2.FKeys=y.FKeys/\(∀x∈p.2.FItems.l,Wv (lvM (N1+1) (l+1)) x)/\p.2.FItems.l.length<=bB
    | Sum.inr p=>Cq b p.2.2 p.2.1/\p.1=zvT):=by
  intro r;induction r with
  | nil=>intro b y _ hb hy hlen; exact⟨_,rfl,⟨rfl,rfl,rfl,hb.2.2.1,fun _=>hb.2.2.2⟩,rfl,rfl,hy,by simpa using hlen⟩
  | cons a r ih =>
   intro b y hr hb hy hlen;simp only [List.length_cons] at hlen;rw [coerce_coercer_list_q14];simp only [Ab.on];rw [addC_ok (by omega),Option.bind_some];obtain⟨x,e,b2,e1,e2,e3⟩:=hA b t a hb ht (hr a (.head _));rw [e1,Option.bind_some];by_cases he:e=0
   ·subst he;have happ:appC 80 y.FItems (⟨false,[x]⟩:Sl TValue)=some ⟨y.FItems.nl&&List.isEmpty [x],y.FItems.l++[x]⟩:=appC80 (by unfold bB at hlen; simp; omega);simp only [decide_true,Bool.not_true,cond_false];rw [happ,Option.bind_some];obtain⟨o,o1,o2⟩:=ih b2 ⟨y.FKind,y.FInt,y.FText,y.FItems.nl&&List.isEmpty [x],y.FItems.l++[x],y.FKeys⟩ (fun z hz=>hr z (.tail _ hz)) (hb.step e2) (fun z hz=>by
     rcases List.mem_append.1 hz with hz|hz
     ·exact hy z hz
     ·rw [List.mem_singleton.1 hz]; exact e3) (by show (y.FItems.l++[x]).length+r.length<=bB; simp; omega)
    refine⟨o,o1, ?_⟩;cases o with
    | inl p=>exact⟨e2.trans o2.1,o2.2.1,o2.2.2.1,o2.2.2.2.1,o2.2.2.2.2⟩
    | inr p=>exact⟨e2.trans o2.1,o2.2⟩
   ·rw [show (!decide (e=0))=true by simpa using he,cond_true];exact⟨_,rfl,e2,rfl⟩
 rw [coerce_coercer_list_qn];simp only [Ab.on];have hitems:∀x∈(bif (!decide (v.FKind=(5:Int))) then((⟨false,[v]⟩:Sl TValue)) else(v.FItems)).l,Wv (N1+1) x:=by
  cases (!decide (v.FKind=(5:Int)))
  ·intro x hx; exact(hv.2.2.2.2 x hx).mono (by omega)
  ·intro x hx; rw [List.mem_singleton.1 hx]; exact hv
 have hlen:(bif (!decide (v.FKind=(5:Int))) then((⟨false,[v]⟩:Sl TValue)) else(v.FItems)).l.length<=bB:=by
  cases (!decide (v.FKind=(5:Int)))
  ·exact hv.2.2.2.1
  ·show 1<=bB; unfold bB; omega
 obtain⟨o,o1,o2⟩:=loop _ c (TValue.mk (5:Int) (0:Int) ([]:Bs) true ([]) (Sl.nil:Sl Bs)) hitems hc (fun _ h=>by cases h) (by show 0+_<=bB; rw [Nat.zero_add]; exact hlen);rw [o1,Option.bind_some];cases o with
 | inl p =>
  obtain⟨p1,p2,p3,p4,p5⟩:=o2;refine⟨p.2,0,p.1,rfl,p1, ?_⟩;rw [lvM_succ (N1+1) hl];refine⟨by rw [p2]; exact⟨by show (-9223372036854775808:Int)<=0; decide,by show (0:Int)<=9223372036854775807; decide⟩,by rw [p3]; exact fun _=>rfl,by rw [p3]; show 0<=bB; omega,p5,p4⟩
 | inr p =>
  refine⟨p.1,p.2.1,p.2.2,rfl,o2.1, ?_⟩;rw [o2.2]; exact zvT_M (by omega)
end Go.Proofs

namespace Go.Proofs
open Go Go.Ab
def tailT (n:Nat) (a1:TRef) (a3:Int) (y8_c0:Coerce_coercer) (y9_l0:TValue):Option (TValue×Int×Coerce_coercer) :=
 (Z1_q y8_c0 a3).bind fun x13=>bif (!decide (x13.1=(0:Int))) then(some (zvT,x13.1,x13.2)) else(bif (decide (y9_l0.FKind=(0:Int))) then(bif Z114_q a1 then(some (zvT,(23:Int),x13.2)) else(some (zvT,(0:Int),x13.2))) else((Z112_q a1).bind fun x28=>bif x28.2 then(((coerce_coercer_list_qn n) x13.2 x28.1 y9_l0 a3).bind fun x32=>some (x32.1,x32.2.1,x32.2.2)) else(bif (((Z92_q x13.2.Fd a1.FName).2&&(!(bif (Z92_q x13.2.Fd a1.FName).2 then Z97_q a1.FName else false)))&&(decide ((Z92_q x13.2.Fd a1.FName).1.FKind=(5:Int)))) then(((coerce_coercer_object_qn n) x13.2 (Z92_q x13.2.Fd a1.FName).1 y9_l0 a3).bind fun x40=>some (x40.1,x40.2.1,x40.2.2)) else((Z2_q x13.2 a1.FName y9_l0).bind fun x42=>some (x42.1,x42.2,x13.2)))))
theorem at_unfoldT (n:Nat) (a0:Coerce_coercer) (a1:TRef) (a2:TValue) (a3:Int):coerce_coercer_at_qn (n+1) a0 a1 a2 a3 =
  bif (!Z94_q a0.Fd a1.FName) then(some (zvT,(10:Int),a0)) else(bif ((decide (a2.FKind=(7:Int)))&&a0.Fliteral) then((Z123_q a0.Fvars a2.FText).bind fun x46=>bif (!decide (x46.1.FKind=(0:Int))) then((Z7_q a0 x46.1 a3).bind fun x50=>bif (!decide (x50.1=(0:Int))) then(some (zvT,x50.1,x50.2)) else(some (x46.1,(0:Int),x50.2))) else(tailT n a1 a3 a0 x46.1)) else(tailT n a1 a3 a0 a2)):=by
 rw [coerce_coercer_at_qn]; rfl
def ListT (N:Nat) (d:TDoc) (n:Nat) (l:Int):Prop:=∀c t v,GoodC N d c->SOk t.FWraps->Wv N v->OutT N l c (coerce_coercer_list_qn n c t v l)
def ObjT (N:Nat) (d:TDoc) (n:Nat) (l:Int):Prop:=∀c nm v,GoodC N d c->Wv N v->OutT N l c (coerce_coercer_object_qn n c (Z92_q d nm).1 v l)
theorem OutT.eta {N:Nat}{l:Int}{c:Coerce_coercer}{o:Option (TValue×Int×Coerce_coercer)}(h:OutT N l c o):OutT N l c (o.bind fun x=>some (x.1,x.2.1,x.2.2)):=by
 obtain⟨x,e,c',h1,h2,h3⟩:=h;exact⟨x,e,c',by rw [h1]; rfl,h2,h3⟩
theorem OutT.after {N:Nat}{l:Int}{c c1:Coerce_coercer}{o:Option (TValue×Int×Coerce_coercer)}(h:Cq c c1 0) (h2:OutT N l c1 o):OutT N l c o:=by
 obtain⟨x,e,c',a1,a2,a3⟩:=h2;exact⟨x,e,c',a1,h.trans a2,a3⟩
theorem tail_tot {N:Nat}{d:TDoc}{n:Nat}{l:Int}(hN:1<=N) (hL:l<=24->ListT N d n l) (hO:l<=24->ObjT N d n l) (c:Coerce_coercer) (t:TRef) (v:TValue) (hc:GoodC N d c) (ht:SOk t.FWraps) (hv:Wv N v):OutT N l c (tailT n t l c v):=by
 obtain⟨e,c1,h1,h2,h3⟩:=count_tot12 hc.2.2 l;unfold tailT;rw [h1,Option.bind_some];by_cases he:e=0
 ·subst he;have hl:=h3 rfl;have hg:=hc.step h2;simp only [decide_true,Bool.not_true,cond_false];cases decide (v.FKind=0)
  ·rw [cond_false,inner_eq ht,Option.bind_some];cases liW (barS t.FWraps).l
   ·rw [cond_false];simp only [cond_false];rw [hg.1];generalize (((Z92_q d t.FName).2&&(!(bif (Z92_q d t.FName).2 then Z97_q t.FName else false)))&&(decide ((Z92_q d t.FName).1.FKind=(5:Int))))=w;cases w
    ·obtain⟨N1,rfl⟩:∃k,N=k+1:=⟨N-1,by omega⟩;obtain⟨x,e,g1,g2⟩:=leaf_tot hv c1 t.FName;rw [cond_false,g1,Option.bind_some];exact⟨x,e,c1,rfl,⟨h2.1,h2.2.1,h2.2.2.1,h2.2.2.2.1,fun _=>h2.2.2.2.2 rfl⟩,g2.mono (by unfold lvM; omega)⟩
    ·exact(hO hl c1 t.FName v hg hv).eta.after h2
   ·exact(hL hl c1 (innerT t) v hg (innerT_ok ht) hv).eta.after h2
  ·rw [cond_true];cases Z114_q t
   ·exact⟨zvT,0,c1,rfl,h2,zvT_M hN⟩
   ·exact⟨zvT,23,c1,rfl,⟨h2.1,h2.2.1,h2.2.2.1,h2.2.2.2.1,fun h=>by cases h⟩,zvT_M hN⟩
 ·rw [show (!decide (e=0))=true by simpa using he,cond_true];exact⟨zvT,e,c1,rfl,h2,zvT_M hN⟩
theorem at_tot {N:Nat}{d:TDoc}{n:Nat}{l:Int}(hN:1<=N) (hN2:N<=1073741824) (h0 : -1000<=l) (hL:l<=24->ListT N d n l) (hO:l<=24->ObjT N d n l):AtT N d (n+1) l:=by
 intro c t v hc ht hv;rw [at_unfoldT];cases (!Z94_q c.Fd t.FName)
 ·rw [cond_false];cases ((decide (v.FKind=(7:Int)))&&c.Fliteral)
  ·exact tail_tot hN hL hO c t v hc ht hv
  ·obtain⟨N1,rfl⟩:∃k,N=k+1:=⟨N-1,by omega⟩;obtain⟨x,b,e1,e2⟩:=get_tot hc.2.1 (by omega) v.FText;have hx:Wv (N1+1) x:=by
    rcases e2 with ⟨-,h⟩|⟨-,h⟩
    ·exact h.mono (by omega)
    ·rw [h]; exact zvT_w.mono (by omega)
   rw [cond_true,e1,Option.bind_some];cases (!decide (x.FKind=0))
   ·exact tail_tot hN hL hO c t x hc ht hx
   ·obtain⟨e,c',w1,w2⟩:=whole_tot F0 c x l hc.2.2 h0 (by rw [F0_eq]; omega) (by rw [F0_eq]; omega);rw [cond_true,show Z7_q c x l=some (e,c') from w1,Option.bind_some];by_cases he:e=0
    ·subst he;simp only [decide_true,Bool.not_true,cond_false];exact⟨x,0,c',rfl,w2,hx.mono (by unfold lvM; omega)⟩
    ·rw [show (!decide (e=0))=true by simpa using he,cond_true];exact⟨zvT,e,c',rfl,w2,zvT_M hN⟩
 ·exact⟨zvT,10,c,rfl,⟨rfl,rfl,rfl,hc.2.2.1,fun h=>by cases h⟩,zvT_M hN⟩
end Go.Proofs

namespace Go.Proofs
open Go Go.Ab
def finT (y22:TValue) (nm:Bs) (kj26:Coerce_coercer->TValue->Option (((Coerce_coercer×TValue)) ⊕ ((TValue×Int×Coerce_coercer)))) (s22:Int) (y44:Coerce_coercer) (y45:TValue):Option (((Coerce_coercer×TValue)) ⊕ ((TValue×Int×Coerce_coercer))) :=
 bif (!decide (s22=(0:Int))) then(some (Sum.inr (zvT,s22,y44))) else((appC 16 y22.FKeys (⟨false,[nm]⟩:Sl Bs)).bind fun x50=>(appC 80 y22.FItems (⟨false,[y45]⟩:Sl TValue)).bind fun x51=>kj26 y44 (TValue.mk y22.FKind y22.FInt y22.FText x51.nl x51.l x50))
theorem obj_unfoldT (a1:TDef) (a2:TValue) (a3:Int) (kpl:Coerce_coercer->TInput->Int->Option (TValue×Int×Coerce_coercer)) (ka:Coerce_coercer->TRef->TValue->Int->Option (TValue×Int×Coerce_coercer)) (h:TInput) (r:List TInput) (i:Nat) (c:Coerce_coercer) (x:TValue) :
  coerce_coercer_object_q18 a1 a2 a3 kpl ka (h::r) i c x=bif (Z93_q (⟨a1.FInputs.nl,a1.FInputs.l.take i⟩:Sl TInput) h.FName).2 then(coerce_coercer_object_q18 a1 a2 a3 kpl ka r (i+1) c x) else
   ((Z123_q a2 h.FName).bind fun x39=>guardO (x39.2) (Z4_q c x39.1) false fun x53 =>
    bif (x39.2&&(!x53)) then((addC a3 (1:Int)).bind fun x55=>(ka c h.FType x39.1 x55).bind fun x56=>finT x h.FName (coerce_coercer_object_q18 a1 a2 a3 kpl ka r (i+1)) x56.2.1 x56.2.2 x56.1)
    else(bif h.FHas then((addC a3 (1:Int)).bind fun x59=>(kpl c h x59).bind fun x60=>finT x h.FName (coerce_coercer_object_q18 a1 a2 a3 kpl ka r (i+1)) x60.2.1 x60.2.2 x60.1)
    else(bif Z114_q h.FType then(finT x h.FName (coerce_coercer_object_q18 a1 a2 a3 kpl ka r (i+1)) (22:Int) c TValue.zero) else(coerce_coercer_object_q18 a1 a2 a3 kpl ka r (i+1) c x)))):=by
 rw [coerce_coercer_object_q18]; rfl
def InOk (N:Nat) (h:TInput):Prop:=SOk h.FType.FWraps/\Wv N h.FDefault
def PlainT (N:Nat) (d:TDoc) (n:Nat) (l:Int):Prop:=∀c h,GoodC N d c->InOk N h->OutT N l c (Z5_qn n c h l)
def ObjS (N:Nat) (l:Int) (b:Coerce_coercer) (o:Option (((Coerce_coercer×TValue)) ⊕ ((TValue×Int×Coerce_coercer)))):Prop:=∃z,o=some z/\(match z with
 | Sum.inl p=>Cq b p.1 0/\p.2.FInt=0/\(p.2.FKeys.nl=true->p.2.FKeys.l=[])/\p.2.FKeys.l.length<=2097152/\(∀x∈p.2.FItems.l,Wv (lvM N (l+1)) x)/\p.2.FItems.l.length<=2097152
 | Sum.inr p=>Cq b p.2.2 p.2.1/\p.1=zvT)
theorem ObjS.after {N:Nat}{l:Int}{a b:Coerce_coercer}{o} (h:Cq a b 0) (h2:ObjS N l b o):ObjS N l a o:=by
 obtain⟨z,e,hz⟩:=h2;refine⟨z,e, ?_⟩;cases z with
 | inl p=>exact⟨h.trans hz.1,hz.2⟩
 | inr p=>exact⟨h.trans hz.1,hz.2⟩
theorem obj_loopT {N:Nat}{d:TDoc}{n:Nat}{l:Int}(hN2:N<=1073741824) (h0 : -1000<=l) (hl:l<=24) (hA:AtT (N+1) d n (l+1)) (hP:PlainT (N+1) d n (l+1)) (a:TDef) (v:TValue) (hv:Wv (N+1) v):∀(r:List TInput) (i:Nat) (c:Coerce_coercer) (x:TValue),(∀h∈r,InOk (N+1) h)->GoodC (N+1) d c->x.FInt=0->(x.FKeys.nl=true->x.FKeys.l=[])->x.FKeys.l.length+r.length<=2097152->(∀y∈x.FItems.l,Wv (lvM (N+1) (l+1)) y)->x.FItems.l.length+r.length<=2097152->ObjS (N+1) l c (coerce_coercer_object_q18 a v l (Z5_qn n) (coerce_coercer_at_qn n) r i c x)
 | [],i,c,x,_,hc,h1,h2,h3,h4,h5=>⟨_,rfl,⟨rfl,rfl,rfl,hc.2.2.1,fun _=>hc.2.2.2⟩,h1,h2,by simpa using h3,h4,by simpa using h5⟩
 | h::r,i,c,x,hr,hc,h1,h2,h3,h4,h5=>by
  simp only [List.length_cons] at h3 h5;have hh:=hr h (.head _);have hr':∀z∈r,InOk (N+1) z:=fun z hz=>hr z (.tail _ hz);have skip:ObjS (N+1) l c (coerce_coercer_object_q18 a v l (Z5_qn n) (coerce_coercer_at_qn n) r (i+1) c x):=obj_loopT hN2 h0 hl hA hP a v hv r (i+1) c x hr' hc h1 h2 (by omega) h4 (by omega);have fin:∀(o:Option (TValue×Int×Coerce_coercer)),OutT (N+1) (l+1) c o->ObjS (N+1) l c (o.bind fun x56=>finT x h.FName (coerce_coercer_object_q18 a v l (Z5_qn n) (coerce_coercer_at_qn n) r (i+1)) x56.2.1 x56.2.2 x56.1):=by
   intro o ho;obtain⟨y,e,c1,e1,e2,e3⟩:=ho;rw [e1,Option.bind_some];unfold finT;by_cases he:e=0
   ·subst he;have k1:appC 16 x.FKeys (⟨false,[h.FName]⟩:Sl Bs)=some ⟨x.FKeys.nl&&List.isEmpty [h.FName],x.FKeys.l++[h.FName]⟩:=appC_ok (by decide) (by simp; omega);have k2:appC 80 x.FItems (⟨false,[y]⟩:Sl TValue)=some ⟨x.FItems.nl&&List.isEmpty [y],x.FItems.l++[y]⟩:=appC80 (by simp; omega);simp only [decide_true,Bool.not_true,cond_false];rw [k1,Option.bind_some,k2,Option.bind_some];refine ObjS.after e2 (obj_loopT hN2 h0 hl hA hP a v hv r (i+1) c1 _ hr' (hc.step e2) h1 (fun h9=>absurd h9 (by show ¬((x.FKeys.nl&&false)=true); simp)) (by show (x.FKeys.l++[h.FName]).length+r.length<=2097152; simp; omega) (fun z hz=>?_) (by show (x.FItems.l++[y]).length+r.length<=2097152; simp; omega))
    rcases List.mem_append.1 hz with hz|hz
    ·exact h4 z hz
    ·rw [List.mem_singleton.1 hz]; exact e3
   ·rw [show (!decide (e=0))=true by simpa using he,cond_true];exact⟨_,rfl,e2,rfl⟩
  rw [obj_unfoldT];cases (Z93_q (⟨a.FInputs.nl,a.FInputs.l.take i⟩:Sl TInput) h.FName).2
  ·obtain⟨y,b,e1,e2⟩:=get_tot hv hN2 h.FName;obtain⟨m,hm⟩:=missing_tot hc.2.1 hN2 y;have hy:Wv (N+1) y:=by
    rcases e2 with ⟨-,h⟩|⟨-,h⟩
    ·exact h.mono (by omega)
    ·rw [h]; exact zvT_w.mono (by omega)
   have rest:ObjS (N+1) l c (bif h.FHas then((addC l (1:Int)).bind fun x59=>(Z5_qn n c h x59).bind fun x60=>finT x h.FName (coerce_coercer_object_q18 a v l (Z5_qn n) (coerce_coercer_at_qn n) r (i+1)) x60.2.1 x60.2.2 x60.1)
    else(bif Z114_q h.FType then(finT x h.FName (coerce_coercer_object_q18 a v l (Z5_qn n) (coerce_coercer_at_qn n) r (i+1)) (22:Int) c TValue.zero) else(coerce_coercer_object_q18 a v l (Z5_qn n) (coerce_coercer_at_qn n) r (i+1) c x))):=by
    cases h.FHas
    ·cases Z114_q h.FType
     ·exact skip
     ·exact⟨_,rfl,⟨rfl,rfl,rfl,hc.2.2.1,fun h=>by cases h⟩,rfl⟩
    ·rw [cond_true,addC_ok (by omega),Option.bind_some];exact fin _ (hP c h hc hh)
   have go:ObjS (N+1) l c ((addC l (1:Int)).bind fun x55=>(coerce_coercer_at_qn n c h.FType y x55).bind fun x56=>finT x h.FName (coerce_coercer_object_q18 a v l (Z5_qn n) (coerce_coercer_at_qn n) r (i+1)) x56.2.1 x56.2.2 x56.1):=by
    rw [addC_ok (by omega),Option.bind_some];exact fin _ (hA c h.FType y hc hh.1 hy)
   rw [cond_false,e1,Option.bind_some];cases b
   ·exact rest
   ·simp only [guardO,if_true,hm,Option.bind_some,Bool.true_and];cases m
    ·exact go
    ·exact rest
  ·exact skip
end Go.Proofs

namespace Go.Proofs
open Go Go.Ab
theorem keys_tot (c:Coerce_coercer) (a:TDef):∀l:List Bs,coerce_coercer_object_q66 c a l=Sum.inl ()\/coerce_coercer_object_q66 c a l=Sum.inr (zvT,22,c)
 | []=>.inl rfl
 | k::l=>by
  rw [coerce_coercer_object_q66];simp only [Ab.on];cases (Z93_q a.FInputs k).2
  ·exact .inr rfl
  ·exact keys_tot c a l
theorem object_tot {N:Nat}{d:TDoc}{n:Nat}{l:Int}(hN2:N<=1073741824) (h0 : -1000<=l) (hl:l<=24) (hA:AtT (N+1) d n (l+1)) (hP:PlainT (N+1) d n (l+1)) (a:TDef) (ha:(∀h∈a.FInputs.l,InOk (N+1) h)/\a.FInputs.l.length<=2097152) (c:Coerce_coercer) (v:TValue) (hc:GoodC (N+1) d c) (hv:Wv (N+1) v):OutT (N+1) l c (coerce_coercer_object_qn (n+1) c a v l):=by
 have same:∀e:Int,e≠0->Cq c c e:=fun e he=>⟨rfl,rfl,rfl,hc.2.2.1,fun h=>absurd h he⟩;rw [coerce_coercer_object_qn];cases (!decide (v.FKind=(6:Int)))
 ·rw [cond_false];simp only [Ab.on];rcases keys_tot c a v.FKeys.l with h|h
  ·rw [h];obtain⟨z,e,hz⟩:=obj_loopT hN2 h0 hl hA hP a v hv a.FInputs.l 0 c (TValue.mk (6:Int) (0:Int) ([]:Bs) true ([]) (Sl.nil:Sl Bs)) ha.1 hc rfl (fun _=>rfl) (by show 0+_<=_; rw [Nat.zero_add]; exact ha.2) (fun _ h=>by cases h) (by show 0+_<=_; rw [Nat.zero_add]; exact ha.2);simp only;rw [e,Option.bind_some];cases z with
   | inl p =>
    obtain⟨p1,p2,p3,p4,p5,p6⟩:=hz;refine⟨p.2,0,p.1,rfl,p1, ?_⟩;rw [lvM_succ (N+1) hl];exact⟨by rw [p2]; exact⟨by decide,by decide⟩,p3,by unfold bB; omega,by unfold bB; omega,p5⟩
   | inr p =>
    refine⟨p.1,p.2.1,p.2.2,rfl,hz.1, ?_⟩;rw [hz.2]; exact zvT_M (by omega)
  ·rw [h];exact⟨zvT,22,c,rfl,same 22 (by decide),zvT_M (by omega)⟩
 ·exact⟨zvT,23,c,rfl,same 23 (by decide),zvT_M (by omega)⟩
theorem plain_tot {N:Nat}{d:TDoc}{n:Nat}{l:Int}(hA:AtT (N+1) d n l):PlainT (N+1) d (n+1) l:=by
 intro c h hc hh;rw [Z5_qn];obtain⟨x,e,c1,h1,h2,h3⟩:=hA ⟨c.Fd,zvT,true,c.Fnodes⟩ h.FType h.FDefault ⟨hc.1,zvT_w.mono (by omega),hc.2.2⟩ hh.1 hh.2;rw [show (TValue.mk (0:Int) (0:Int) ([]:Bs) true ([]) (Sl.nil:Sl Bs))=zvT from rfl,h1,Option.bind_some];simp only [Ab.on];exact⟨x,e,_,rfl,⟨h2.1,rfl,rfl,h2.2.2.2.1,h2.2.2.2.2⟩,h3⟩
end Go.Proofs

namespace Go.Proofs
open Go Go.Ab
def InsOk (N:Nat) (d:TDoc):Prop:=∀nm,(∀h∈(Z92_q d nm).1.FInputs.l,InOk N h)/\(Z92_q d nm).1.FInputs.l.length<=2097152
theorem all_tot {N:Nat}{d:TDoc}(hN2:N<=1073741823) (hD:InsOk (N+1) d):∀(k:Nat) (l:Int),25-l<=(k:Int) -> -1000<=l->∀n,3*k+1<=n->AtT (N+1) d n l
 | 0,l,hk,h0,n,hn=>by
  obtain⟨m,rfl⟩:∃m,n=m+1:=⟨n-1,by omega⟩;exact at_tot (by omega) (by omega) h0 (fun h=>by omega) (fun h=>by omega)
 | k+1,l,hk,h0,n,hn=>by
  obtain⟨m,rfl⟩:∃m,n=m+1+1+1:=⟨n-3,by omega⟩;have hA2:=all_tot hN2 hD k (l+1) (by omega) (by omega) (m+1) (by omega);have hA1:=all_tot hN2 hD k (l+1) (by omega) (by omega) m (by omega);refine at_tot (by omega) (by omega) h0 (fun hl=>?_) (fun hl=>?_)
  ·intro c t v hc ht hv;exact list_tot (by omega) h0 hl hA2 c t v hc ht hv
  ·intro c nm v hc hv;exact object_tot (by omega) h0 hl hA2 (plain_tot hA1) _ (hD nm) c v hc hv
theorem literal_tot {N:Nat}{d:TDoc}(hN2:N<=1073741000) (hD:InsOk (N+1) d) (t:TRef) (v va:TValue) (ht:SOk t.FWraps) (hv:Wv (N+1) v) (hva:Wv (N+1) va):∃x e,Z0_q d t v va=some (x,e):=by
 unfold Z0_q;obtain⟨m,hm⟩:=missing_tot (c:=⟨d,va,true,0⟩) hva (by omega) v;rw [hm,Option.bind_some];cases m
 ·obtain⟨x,e,c',h1,h2,h3⟩:=all_tot (by omega) hD 24 1 (by omega) (by omega) F0 (by rw [F0_eq]; omega) ⟨d,va,true,0⟩ t v ⟨rfl,hva,by show (0:Int)<=0; decide,by show (0:Int)<=4096; decide⟩ ht hv;rw [cond_false,show coerce_coercer_at_q (Coerce_coercer.mk d va true (0:Int)) t v (1:Int)=some (x,e,c') from h1,Option.bind_some];unfold Z8_q;simp only;cases (!decide (e=(0:Int)))
  ·obtain⟨r,e2,-⟩:=copy_ok (n:=lvM (N+1) 1) (by unfold lvM; omega) h3;rw [cond_false,e2];exact⟨_,_,rfl⟩
  ·exact⟨_,_,rfl⟩
 ·simp only [Ab.on];cases (!Z94_q d t.FName)<;>exact⟨_,_,rfl⟩
end Go.Proofs

namespace Go.Proofs
open Go Go.Ab
def fil (l:List Int):List Int:=l.filter fun x=>!decide (x=1)
theorem equalAux (a1:Sl Int):∀(l:List Int) (s:Nat),l.length+s=a1.l.length->Z105_q12 a1 l s=some (if l=a1.l.drop s then Sum.inl () else Sum.inr false)
 | [],s,h=>by
  rw [Z105_q12,if_pos];rw [List.drop_eq_nil_of_le]; simp at h; omega
 | x::r,s,h=>by
  simp only [List.length_cons] at h;have hs:s<a1.l.length:=by omega
  have hg:=List.getElem?_eq_getElem hs;rw [Z105_q12];simp only [Ab.on];rw [hg,Option.bind_some,equalAux a1 r (s+1) (by omega),Q.drop_of hg];generalize a1.l[s]=y;generalize a1.l.drop (s+1)=t;by_cases e:x=y
  ·subst e; simp only [decide_true,Bool.not_true,cond_false,List.cons.injEq,true_and]
  ·simp [e]
theorem equal_eq (a b:Sl Int):Z105_q a b=some (decide (a.l=b.l)):=by
 unfold Z105_q;by_cases h:a.l.length=b.l.length
 ·rw [show decide ((a.l.length:Int)=(b.l.length:Int))=true from decide_eq_true (by omega)];simp only [Bool.not_true,cond_false];rw [equalAux b a.l 0 (by omega),List.drop_zero];by_cases e:a.l=b.l<;>simp [e,Ab.on]
 ·rw [show decide ((a.l.length:Int)=(b.l.length:Int))=false from decide_eq_false (by omega)];have:a.l≠b.l:=fun e=>h (by rw [e]);simp [this]
theorem loose_eq {s:Sl Int}(h:SOk s):∃nl,Z121_q s=some ⟨nl,fil s.l⟩:=by
 unfold Z121_q;rw [clone_eq h,Option.bind_some,Option.bind_some];exact⟨s.nl,rfl⟩
theorem shape_eq {a b:TRef}(ha:SOk a.FWraps) (hb:SOk b.FWraps):Z119_q a b=some (a.FName==b.FName&&decide (fil a.FWraps.l=fil b.FWraps.l)):=by
 obtain⟨n1,h1⟩:=loose_eq ha;obtain⟨n2,h2⟩:=loose_eq hb;unfold Z119_q;rw [h1,h2];cases h:a.FName==b.FName
 ·simp [guardO]
 ·simp [guardO,equal_eq]
def barL (l:List Int):List Int:=bif nnW l then l.drop 1 else l
theorem barS_l (s:Sl Int):(barS s).l=barL s.l:=by unfold barS barL; cases nnW s.l<;>rfl
def wk:Nat->List Int->List Int->List Int
 | 0,_,_=>[]
 | n+1,a,b=>(bif nnW a&&nnW b then [1] else [])++(bif liW (barL a)&&liW (barL b) then 2::wk n ((barL a).drop 1) ((barL b).drop 1) else [])
theorem barL_len (l:List Int):(barL l).length<=l.length:=by unfold barL; cases nnW l<;>simp
theorem barL_lt {l:List Int}(h:liW (barL l)=true):((barL l).drop 1).length<l.length:=by
 have h1:=list_one h; have h2:=barL_len l; simp; omega
theorem weakAux:∀(n:Nat) (a b z o:TRef),a.FWraps.l.length<n->SOk a.FWraps->SOk b.FWraps->o.FWraps.l.length+2*a.FWraps.l.length<=1073741824->(o.FWraps.nl=true->o.FWraps.l=[]) ->
  ∃nl,Z120_l9 n a b z o=some (⟨o.FName,⟨nl,o.FWraps.l++wk n a.FWraps.l b.FWraps.l⟩⟩,true)/\(nl=true->o.FWraps.l++wk n a.FWraps.l b.FWraps.l=[])
 | 0,_,_,_,_,h,_,_,_,_=>by omega
 | n+1,a,b,z,o,h,ha,hb,hl,hz=>by
  have key:∀o':TRef,o'.FWraps.l.length+2*a.FWraps.l.length<=1073741825->(o'.FWraps.nl=true->o'.FWraps.l=[])->∃nl,Z120_j14 a b z (Z120_l9 n) o'=some (⟨o'.FName,⟨nl,o'.FWraps.l++(bif liW (barL a.FWraps.l)&&liW (barL b.FWraps.l) then 2::wk n ((barL a.FWraps.l).drop 1) ((barL b.FWraps.l).drop 1) else [])⟩⟩,true) /\
    (nl=true->o'.FWraps.l++(bif liW (barL a.FWraps.l)&&liW (barL b.FWraps.l) then 2::wk n ((barL a.FWraps.l).drop 1) ((barL b.FWraps.l).drop 1) else [])=[]):=by
   intro o' ho' hz';unfold Z120_j14;rw [Z112_eq,Z112_eq,inner_eq ha,inner_eq hb,Option.bind_some,Option.bind_some,barS_l,barS_l];cases h1:liW (barL a.FWraps.l)
   ·exact⟨o'.FWraps.nl,by simp,by simpa using hz'⟩
   ·cases h2:liW (barL b.FWraps.l)
    ·exact⟨o'.FWraps.nl,by simp,by simpa using hz'⟩
    ·simp only [cond_true,Bool.not_true,Bool.or_self,cond_false,Bool.and_self];have hlt:=barL_lt h1;have ea:(innerT a).FWraps.l=(barL a.FWraps.l).drop 1:=by unfold innerT; rw [barS_l]
     have eb:(innerT b).FWraps.l=(barL b.FWraps.l).drop 1:=by unfold innerT; rw [barS_l]
     rw [appC_ok (by decide) (by simp; omega),Option.bind_some];obtain⟨nl,h3,h4⟩:=weakAux n (innerT a) (innerT b) z ⟨o'.FName,⟨o'.FWraps.nl&&false,o'.FWraps.l++[2]⟩⟩ (by rw [ea]; omega) (innerT_ok ha) (innerT_ok hb) (by rw [ea]; simp only [List.length_append,List.length_singleton]; omega) (by simp);rw [show (List.isEmpty (⟨false,[(2:Int)]⟩:Sl Int).l)=false from rfl,h3,ea,eb];rw [ea,eb] at h4;exact⟨nl,by simp,fun e=>by have:=h4 e; simp at this⟩
  rw [Z120_l9,Z114_eq,Z114_eq,Option.bind_some,isNonNull_eq,isNonNull_eq];cases h1:nnW a.FWraps.l
  ·obtain⟨nl,h2,h5⟩:=key o (by omega) hz;exact⟨nl,by simp only [guardO]; simp only [Bool.false_eq_true,if_false,Bool.and_false,cond_false]; rw [h2,wk,h1]; simp,fun e=>by rw [wk,h1]; simpa using h5 e⟩
  ·cases h2:nnW b.FWraps.l
   ·obtain⟨nl,h3,h5⟩:=key o (by omega) hz;exact⟨nl,by simp only [guardO]; simp only [if_true,Option.bind_some,Bool.and_false,cond_false]; rw [h3,wk,h1,h2]; simp,fun e=>by rw [wk,h1,h2]; simpa using h5 e⟩
   ·obtain⟨nl,h3,h5⟩:=key ⟨o.FName,⟨o.FWraps.nl&&false,o.FWraps.l++[1]⟩⟩ (by simp only [List.length_append,List.length_singleton]; omega) (by simp);refine⟨nl, ?_,fun e=>by have:=h5 e; simp at this⟩;simp only [guardO,if_true,Option.bind_some,Bool.and_self,cond_true];rw [appC_ok (by decide) (by simp; omega),Option.bind_some];rw [show (List.isEmpty (⟨false,[(1:Int)]⟩:Sl Int).l)=false from rfl,h3,wk,h1,h2]
    simp
theorem weaken_eq' {a b:TRef}(ha:SOk a.FWraps) (hb:SOk b.FWraps):∃nl,Z120_q a b=some (bif (a.FName==b.FName&&decide (fil a.FWraps.l=fil b.FWraps.l)) then(⟨a.FName,⟨nl,wk F0 a.FWraps.l b.FWraps.l⟩⟩,true) else(⟨[],Sl.nil⟩,false))/\(nl=true->wk F0 a.FWraps.l b.FWraps.l=[]):=by
 have hl:=ha.2;obtain⟨nl,h1,h2⟩:=weakAux F0 a b TRef.zero ⟨a.FName,Sl.nil⟩ (by rw [F0_eq]; omega) ha hb (by simp [Sl.nil]; omega) (fun _=>rfl);refine⟨nl, ?_,fun e=>by simpa [Sl.nil] using h2 e⟩;unfold Z120_q Z120;rw [Z119_eq,shape_eq ha hb,Option.bind_some,h1];cases (a.FName==b.FName&&decide (fil a.FWraps.l=fil b.FWraps.l))<;>simp [Sl.nil]
theorem weaken_eq {a b:TRef}(ha:SOk a.FWraps) (hb:SOk b.FWraps):∃nl,Z120_q a b=some (bif (a.FName==b.FName&&decide (fil a.FWraps.l=fil b.FWraps.l)) then(⟨a.FName,⟨nl,wk F0 a.FWraps.l b.FWraps.l⟩⟩,true) else(⟨[],Sl.nil⟩,false)) :=
 let ⟨nl,h,_⟩:=weaken_eq' ha hb; ⟨nl,h⟩
theorem fits_eq {a b:TRef}(ha:SOk a.FWraps) (hb:SOk b.FWraps):Z111_q a b=some ((a.FName==b.FName&&decide (fil a.FWraps.l=fil b.FWraps.l))&&decide (wk F0 a.FWraps.l b.FWraps.l=b.FWraps.l)):=by
 obtain⟨nl,h⟩:=weaken_eq ha hb;unfold Z111_q;rw [h,Option.bind_some];cases hs:(a.FName==b.FName&&decide (fil a.FWraps.l=fil b.FWraps.l))
 ·simp [guardO]
 ·have hn:(a.FName==b.FName)=true:=by simp only [Bool.and_eq_true] at hs; exact hs.1
  simp only [guardO,cond_true,if_true];unfold Z118_q;rw [hn,equal_eq];simp [guardO]
def rt:List Int->Bool
 | []=>true
 | x::r=>(decide (x=1)||decide (x=2))&&!(decide (x=1)&&nnW r)&&rt r
end Go.Proofs


namespace Go.Proofs
open Go Go.Ab
theorem all_cons {α:Type}{P:α->Prop}{a:α}{r:List α}(h:P a) (h2:∀x∈r,P x):∀x∈a::r,P x:=fun x hx=>by
 rcases List.mem_cons.1 hx with rfl|hx
 ·exact h
 ·exact h2 x hx
inductive GVal (P:Bs->Prop):TValue->Prop
 | mk (v:TValue):(v.FKind=7->P v.FText)->(v.FKind=5\/v.FKind=6->∀x∈v.FItems.l,GVal P x)->GVal P v
def GArgs (P:Bs->Prop) (l:List TArg):Prop:=∀a∈l,GVal P a.FValue
def GDirs (P:Bs->Prop) (l:List TDir):Prop:=∀d∈l,GArgs P d.FArgs.l
structure Vq (c c':Vars_checker) (k:Nat) (P:Prop):Prop where
 fd:c'.Fd=c.Fd
 fv:c'.Fvars=c.Fvars
 lo:c.Fout.l.length<=c'.Fout.l.length
 hi:c'.Fout.l.length<=c.Fout.l.length+k
 say:c'.Fout.l.length=c.Fout.l.length->P
theorem Vq.refl (c:Vars_checker) (k:Nat){P:Prop}(h:P):Vq c c k P:=⟨rfl,rfl,Nat.le_refl _,by omega,fun _=>h⟩
theorem Vq.trans {a b c:Vars_checker}{k m n:Nat}{P Q R:Prop}(h:Vq a b k P) (h':Vq b c m Q) (hn:k+m<=n) (hr:P->Q->R):Vq a c n R :=
 ⟨h'.fd.trans h.fd,h'.fv.trans h.fv,by have:=h.lo; have:=h'.lo; omega,by have:=h.hi; have:=h'.hi; omega,fun e=>by
  have:=h.lo; have:=h'.lo;exact hr (h.say (by omega)) (h'.say (by omega))⟩
theorem Vq.mono {a b:Vars_checker}{k n:Nat}{P R:Prop}(h:Vq a b k P) (hn:k<=n) (hr:P->R):Vq a b n R :=
 ⟨h.fd,h.fv,h.lo,by have:=h.hi; omega,fun e=>hr (h.say e)⟩
def Vt (o:Option Vars_checker) (c:Vars_checker) (k:Nat) (P:Prop):Prop:=∃c',o=some c'/\Vq c c' k P
theorem Vt.bind {o:Option Vars_checker}{f:Vars_checker->Option Vars_checker}{c:Vars_checker}{k m n:Nat}{P Q R:Prop}(h:Vt o c k P) (hn:k+m<=n) (hr:P->Q->R)
  (hf:∀c',Vq c c' k P->Vt (f c') c' m Q):Vt (o.bind f) c n R:=by
 obtain⟨c1,e,h1⟩:=h;obtain⟨c2,e2,h2⟩:=hf c1 h1;exact⟨c2,by rw [e]; exact e2,h1.trans h2 hn hr⟩
theorem Vt.mono {o:Option Vars_checker}{c:Vars_checker}{k n:Nat}{P R:Prop}(h:Vt o c k P) (hn:k<=n) (hr:P->R):Vt o c n R:=by
 obtain⟨c1,e,h1⟩:=h; exact⟨c1,e,h1.mono hn hr⟩
theorem Vt.map {o:Option Vars_checker}{c:Vars_checker}{k:Nat}{P:Prop}(h:Vt o c k P):Vt (o.bind fun x=>some x) c k P:=by
 obtain⟨c1,e,h1⟩:=h; exact⟨c1,by rw [e]; rfl,h1⟩
theorem Vt.pure (c:Vars_checker) (k:Nat){P:Prop}(h:P):Vt (some c) c k P:=⟨c,rfl,Vq.refl c k h⟩
theorem add_vt {c:Vars_checker}(h:c.Fout.l.length<=1000000000) (b:Bool) (e:Int) (s:Bs):Vt (Z129_q c b e s) c 1 (b=false):=by
 unfold Z129_q;cases b
 ·exact Vt.pure c 1 rfl
 ·obtain⟨v,h1,h2⟩:=app24 (s:=c.Fout) (r:=⟨false,[TFault.mk e s]⟩) (by simp; omega);simp only [List.length_singleton] at h2;rw [cond_true,h1];exact⟨_,rfl,rfl,rfl,by show _<=v.l.length; omega,by show v.l.length<=_; omega,fun e'=>by have:v.l.length=c.Fout.l.length:=e'; omega⟩
theorem idxF {f:TVar->Bool}:∀(l:List TVar) (n:Nat),(∃i:Nat,∃h:i<l.length,Z106_q6 f l n=Sum.inr ((n+i:Nat):Int)/\f l[i]=true)\/(Z106_q6 f l n=Sum.inl ()/\∀x∈l,f x=false)
 | [],n=>.inr ⟨rfl,fun _ h=>by cases h⟩
 | a::r,n=>by
  rw [Z106_q6];simp only [Ab.on];cases h:f a
  ·rw [cond_false];rcases idxF (f:=f) r (n+1) with ⟨i,hi,e1,e2⟩|⟨e1,e2⟩
   ·exact .inl ⟨i+1,by simp only [List.length_cons]; omega,by rw [e1]; congr 2; omega,e2⟩
   ·exact .inr ⟨e1,all_cons h e2⟩
  ·exact .inl ⟨0,by simp,rfl,h⟩
theorem indexF_eq (s:Sl TVar) (f:TVar->Bool):(∃i:Nat,∃h:i<s.l.length,Z106_q s f=(i:Int)/\f s.l[i]=true)\/(Z106_q s f = -1/\∀x∈s.l,f x=false):=by
 unfold Z106_q;rcases idxF (f:=f) s.l 0 with ⟨i,h,e1,e2⟩|⟨e1,e2⟩
 ·exact .inl ⟨i,h,by rw [e1]; simp [Ab.on],e2⟩
 ·exact .inr ⟨by rw [e1]; rfl,e2⟩
theorem containsF_eq (s:Sl TVar) (f:TVar->Bool):Z101_q s f=s.l.any f:=by
 unfold Z101_q;simp only [Ab.on];rcases indexF_eq s f with ⟨i,h,e1,e2⟩|⟨e1,e2⟩
 ·rw [e1,show decide ((0:Int)<=(i:Int))=true from decide_eq_true (by omega)];exact(List.any_eq_true.2 ⟨_,List.getElem_mem h,e2⟩).symm
 ·rw [e1];have:s.l.any f=false:=by
   rw [List.any_eq_false]; intro x hx; simp [e2 x hx]
  rw [this]; rfl
def DSok (d:TDoc):Prop:=∀t∈d.FDefs.l,(∀i∈t.FInputs.l,SOk i.FType.FWraps)/\∀f∈t.FFields.l,∀i∈f.FArgs.l,SOk i.FType.FWraps
theorem findD (s:Bs):∀l:List TDef,Z92_q7 s l=Sum.inl ()\/∃t∈l,Z92_q7 s l=Sum.inr (t,true)
 | []=>.inl rfl
 | a::r=>by
  rw [Z92_q7];simp only [Ab.on];cases a.FName==s
  ·rcases findD s r with h|⟨t,h1,h2⟩
   ·exact .inl h
   ·exact .inr ⟨t,.tail _ h1,h2⟩
  ·exact .inr ⟨a,.head _,rfl⟩
theorem findD_mem (d:TDoc) (s:Bs):((Z92_q d s).1.FInputs.l=[]/\(Z92_q d s).1.FFields.l=[])\/(Z92_q d s).1∈d.FDefs.l:=by
 unfold Z92_q;rcases findD s d.FDefs.l with h|⟨t,h1,h2⟩
 ·rw [h]; exact .inl ⟨rfl,rfl⟩
 ·rw [h2]; exact .inr h1
theorem inputD (s:Bs):∀l:List TInput,Z93_q7 s l=Sum.inl ()\/∃t∈l,Z93_q7 s l=Sum.inr (t,true)
 | []=>.inl rfl
 | a::r=>by
  rw [Z93_q7];simp only [Ab.on];cases a.FName==s
  ·rcases inputD s r with h|⟨t,h1,h2⟩
   ·exact .inl h
   ·exact .inr ⟨t,.tail _ h1,h2⟩
  ·exact .inr ⟨a,.head _,rfl⟩
theorem nilRef_ok:SOk TRef.zero.FWraps:=⟨fun _=>rfl,by show 0<=_; omega⟩
theorem inputOf_sok {s:Sl TInput}(h:∀i∈s.l,SOk i.FType.FWraps) (n:Bs):SOk (Z93_q s n).1.FType.FWraps:=by
 unfold Z93_q;rcases inputD n s.l with e|⟨t,h1,h2⟩
 ·rw [e]; exact nilRef_ok
 ·rw [h2]; exact h t h1
theorem fieldD (s:Bs):∀l:List TField,Z91_q7 s l=Sum.inl ()\/∃t∈l,Z91_q7 s l=Sum.inr (t,true)
 | []=>.inl rfl
 | a::r=>by
  rw [Z91_q7];simp only [Ab.on];cases a.FName==s
  ·rcases fieldD s r with h|⟨t,h1,h2⟩
   ·exact .inl h
   ·exact .inr ⟨t,.tail _ h1,h2⟩
  ·exact .inr ⟨a,.head _,rfl⟩
theorem fieldOf_sok {t:TDef}(h:∀f∈t.FFields.l,∀i∈f.FArgs.l,SOk i.FType.FWraps) (n:Bs):∀i∈(Z91_q t n).1.FArgs.l,SOk i.FType.FWraps:=by
 unfold Z91_q;rcases fieldD n t.FFields.l with e|⟨f,h1,h2⟩
 ·rw [e]; intro i hi; cases hi
 ·rw [h2]; exact h f h1
def vnames (c:Vars_checker):List Bs:=c.Fvars.l.map TVar.FName
def VOk (c:Vars_checker):Prop:=DSok c.Fd/\∀x∈c.Fvars.l,SOk x.FType.FWraps
theorem Vq.ok {c c':Vars_checker}{k:Nat}{P:Prop}(h:Vq c c' k P) (hc:VOk c):VOk c':=by
 unfold VOk; rw [h.fd,h.fv]; exact hc
theorem Vq.names {c c':Vars_checker}{k:Nat}{P:Prop}(h:Vq c c' k P):vnames c'=vnames c:=by
 unfold vnames; rw [h.fv]
theorem value_vt:∀(n:Nat) (c:Vars_checker) (v:TValue) (t:TRef) (known:Bool) (at_:Bs),v.sz<n->SOk t.FWraps->VOk c->c.Fout.l.length+v.sz<=900000000 ->
  Vt (Z134_qn n c v t known at_) c v.sz (GVal (·∈vnames c) v)
 | 0,_,_,_,_,_,h,_,_,_=>by omega
 | n+1,c,v,t,known,at_,hn,ht,hc,hb=>by
  have hs:=v.sz_def;have hp:=Bs.sz_pos v.FText;have hsum:(v.FItems.l.map TValue.sz).sum+1=Sl.sz TValue.sz v.FItems:=by unfold Sl.sz; omega
  rw [Z134_qn];by_cases h7:v.FKind=7
  ·rw [decide_eq_true h7,cond_true];simp only [Ab.on];have hg:v.FText∈vnames c->GVal (·∈vnames c) v:=fun h=>⟨v,fun _=>h,fun h5=>by omega⟩;rcases indexF_eq c.Fvars (fun y0=>Z135_q y0 v) with ⟨i,hi,e1,e2⟩|⟨e1,e2⟩
   ·have hmem:v.FText∈vnames c:=by
     have e2:(c.Fvars.l[i].FName==v.FText)=true:=e2;have:c.Fvars.l[i].FName=v.FText:=by simpa using e2
     exact List.mem_map.2 ⟨_,List.getElem_mem hi,this⟩
    rw [e1,show decide ((i:Int)<(0:Int))=false from decide_eq_false (by omega),show (if (0:Int)>(i:Int) then(0:Int) else(i:Int))=(i:Int) from if_neg (by omega)];have hidx:idxC c.Fvars.l (i:Int)=some c.Fvars.l[i]:=by unfold idxC; rw [if_pos (by omega),Int.toNat_natCast,List.getElem?_eq_getElem hi]
    have hf:=fits_eq (hc.2 _ (List.getElem_mem hi)) ht;have fin:∀b:Bool,Vt ((Z129_q c b (27:Int) at_).bind fun x9=>some x9) c v.sz (GVal (·∈vnames c) v):=fun b=>(add_vt (by omega) b _ _).map.mono (by omega) fun _=>hg hmem;cases known
    ·simp only [guardO,Bool.and_false,Bool.false_eq_true,if_false];exact fin _
    ·simp only [guardO,Bool.not_false,Bool.and_self,if_true,Bool.true_and];rw [hidx,Option.bind_some];unfold Z127_q;rw [hf,Option.bind_some,Option.bind_some];exact fin _
   ·rw [e1,show decide ((-1:Int)<(0:Int))=true from rfl];simp only [guardO,Bool.not_true,Bool.false_and,if_false,Bool.true_or];exact(add_vt (by omega) true _ _).map.mono (by omega) fun h=>by cases h
  ·rw [decide_eq_false h7,cond_false];by_cases h5:v.FKind=5
   ·rw [decide_eq_true h5,cond_true,inner_eq ht,Option.bind_some];have hti:SOk (bif liW (barS t.FWraps).l then(innerT t,true) else((⟨[],Sl.nil⟩:TRef),false)).1.FWraps:=by
     cases liW (barS t.FWraps).l
     ·exact nilRef_ok
     ·exact innerT_ok ht
    generalize (bif liW (barS t.FWraps).l then(innerT t,true) else((⟨[],Sl.nil⟩:TRef),false))=x13 at hti ⊢;have loop:∀(l:List TValue) (c:Vars_checker),(∀x∈l,x.sz<n)->VOk c->c.Fout.l.length+(l.map TValue.sz).sum<=900000000->Vt (Z134_q16 known at_ x13 (Z134_qn n) l c) c (l.map TValue.sz).sum (∀x∈l,GVal (·∈vnames c) x):=by
     intro l;induction l with
     | nil=>intro c _ _ _; exact Vt.pure c _ fun _ h=>by cases h
     | cons a r ih =>
      intro c hx hc hb;simp only [List.map_cons,List.sum_cons] at hb ⊢;rw [Z134_q16];simp only [Ab.on];refine Vt.bind (Q:=∀x∈r,GVal (·∈vnames c) x) (value_vt n c a x13.1 (known&&x13.2) at_ (hx a (.head _)) hti hc (by omega)) (Nat.le_refl _) (fun h1 h2=>all_cons h1 h2) fun c' hq=>?_;have:=hq.hi;have h:=ih c' (fun x h=>hx x (.tail _ h)) (hq.ok hc) (by omega);rw [hq.names] at h;exact h
    have hl:=loop v.FItems.l c (fun x hx=>by have:=Sl.mem_le (f:=TValue.sz) hx; omega) hc (by omega);exact hl.map.mono (by omega) fun h=>⟨v,fun e=>absurd e h7,fun _=>h⟩
   ·rw [decide_eq_false h5,cond_false];by_cases h6:v.FKind=6
    ·rw [decide_eq_true h6,cond_true];simp only [Ab.on];have hdef:∀i∈(Z92_q c.Fd t.FName).1.FInputs.l,SOk i.FType.FWraps:=by
      rcases findD_mem c.Fd t.FName with ⟨e,-⟩|h
      ·rw [e]; intro i hi; cases hi
      ·exact(hc.1 _ h).1
     generalize Z92_q c.Fd t.FName=x29 at hdef ⊢;have loop:∀(l:List TValue) (i:Nat) (c:Vars_checker),(∀x∈l,x.sz<n)->VOk c->c.Fout.l.length+(l.map TValue.sz).sum<=900000000->Vt (Z134_q33 v known at_ x29 (Z134_qn n) l i c) c (l.map TValue.sz).sum (∀x∈l,GVal (·∈vnames c) x):=by
      intro l;induction l with
      | nil=>intro i c _ _ _; exact Vt.pure c _ fun _ h=>by cases h
      | cons a r ih =>
       intro i c hx hc hb;simp only [List.map_cons,List.sum_cons] at hb ⊢;rw [Z134_q33];simp only [Ab.on];have hz:∃z:Bool×TInput,(bif (((x29.2&&known)&&(decide (x29.1.FKind=(5:Int))))&&(decide (((i:Nat):Int)<((v.FKeys.l.length:Nat):Int)))) then((v.FKeys.l[i]?).bind fun x51=>some ((Z93_q x29.1.FInputs x51).2,(Z93_q x29.1.FInputs x51).1)) else(some (false,TInput.zero)))=some z/\SOk z.2.FType.FWraps:=by
        by_cases hlt:i<v.FKeys.l.length
        ·rw [show decide (((i:Nat):Int)<((v.FKeys.l.length:Nat):Int))=true from decide_eq_true (by omega),List.getElem?_eq_getElem hlt,Option.bind_some];cases (((x29.2&&known)&&(decide (x29.1.FKind=(5:Int))))&&true)
         ·exact⟨_,rfl,nilRef_ok⟩
         ·exact⟨_,rfl,inputOf_sok hdef _⟩
        ·rw [show decide (((i:Nat):Int)<((v.FKeys.l.length:Nat):Int))=false from decide_eq_false (by omega),Bool.and_false];exact⟨_,rfl,nilRef_ok⟩
       obtain⟨z,hz1,hz2⟩:=hz;rw [hz1,Option.bind_some];refine Vt.bind (Q:=∀x∈r,GVal (·∈vnames c) x) (value_vt n c a _ _ at_ (hx a (.head _)) hz2 hc (by omega)) (Nat.le_refl _) (fun h1 h2=>all_cons h1 h2) fun c' hq=>?_;have:=hq.hi;have h:=ih (i+1) c' (fun x h=>hx x (.tail _ h)) (hq.ok hc) (by omega);rw [hq.names] at h;exact h
     have hl:=loop v.FItems.l 0 c (fun x hx=>by have:=Sl.mem_le (f:=TValue.sz) hx; omega) hc (by omega);exact hl.map.mono (by omega) fun h=>⟨v,fun e=>absurd e h7,fun _=>h⟩
    ·rw [decide_eq_false h6];exact Vt.pure c _ ⟨v,fun e=>absurd e h7,fun e=>absurd e (fun e=>e.elim h5 h6)⟩
theorem boolT:∃t,Z116_q (Z115_q ([66,111,111,108,101,97,110]:Bs))=some t/\SOk t.FWraps:=⟨⟨[66,111,111,108,101,97,110],⟨false,[1]⟩⟩,by rfl,fun h=>by(cases h),by show 1<=_; omega⟩
theorem value_top (c:Vars_checker) (v:TValue) (t:TRef) (known:Bool) (at_:Bs) (hv:v.sz<=1048576) (ht:SOk t.FWraps) (hc:VOk c) (hb:c.Fout.l.length+v.sz<=900000000) :
  Vt (Z134_q c v t known at_) c v.sz (GVal (·∈vnames c) v):=value_vt F0 c v t known at_ (by rw [F0_eq]; omega) ht hc hb
theorem dargs_vt (at_:Bs) (x12:TDir):∀(l:List TArg) (c:Vars_checker),(∀a∈l,a.sz<=1048576)->VOk c->c.Fout.l.length+(l.map TArg.sz).sum<=900000000->Vt (Z132_q15 at_ x12 l c) c (l.map TArg.sz).sum (GArgs (·∈vnames c) l)
 | [],c,_,_,_=>Vt.pure c _ fun _ h=>by cases h
 | a::r,c,hx,hc,hb=>by
  have hs:=a.sz_def;have ha:=hx a (.head _);simp only [List.map_cons,List.sum_cons] at hb ⊢;rw [Z132_q15];simp only [Ab.on];obtain⟨t,e,ht⟩:=boolT;rw [e,Option.bind_some];refine Vt.bind (m:=(r.map TArg.sz).sum) (Q:=GArgs (·∈vnames c) r) (value_top c a.FValue t _ at_ (by omega) ht hc (by omega)) (by omega) (fun h1 h2=>all_cons h1 h2) fun c' hq=>?_;have:=hq.hi;have h:=dargs_vt at_ x12 r c' (fun x h=>hx x (.tail _ h)) (hq.ok hc) (by omega)
  rw [hq.names] at h;exact h
theorem dirs_loop_vt (at_:Bs):∀(l:List TDir) (c:Vars_checker),(∀a∈l,a.sz<=1048576)->VOk c->c.Fout.l.length+(l.map TDir.sz).sum<=900000000->Vt (Z132_q3 at_ l c) c (l.map TDir.sz).sum (GDirs (·∈vnames c) l)
 | [],c,_,_,_=>Vt.pure c _ fun _ h=>by cases h
 | a::r,c,hx,hc,hb=>by
  have hs:=a.sz_def;have ha:=hx a (.head _);have hsum:(a.FArgs.l.map TArg.sz).sum+1=Sl.sz TArg.sz a.FArgs:=by unfold Sl.sz; omega
  simp only [List.map_cons,List.sum_cons] at hb ⊢;rw [Z132_q3];simp only [Ab.on];refine Vt.bind (m:=(r.map TDir.sz).sum) (Q:=GDirs (·∈vnames c) r) (dargs_vt at_ a a.FArgs.l c (fun x hx'=>by have:=Sl.mem_le (f:=TArg.sz) hx'; omega) hc (by omega)) (by omega) (fun h1 h2=>all_cons h1 h2) fun c' hq=>?_;have:=hq.hi;have h:=dirs_loop_vt at_ r c' (fun x h=>hx x (.tail _ h)) (hq.ok hc) (by omega);rw [hq.names] at h
  exact h
theorem dirs_vt (c:Vars_checker) (s:Sl TDir) (at_:Bs) (hx:∀a∈s.l,a.sz<=1048576) (hc:VOk c) (hb:c.Fout.l.length+(s.l.map TDir.sz).sum<=900000000):Vt (Z132_q c s at_) c (s.l.map TDir.sz).sum (GDirs (·∈vnames c) s.l):=by
 unfold Z132_q;exact(dirs_loop_vt at_ s.l c hx hc hb).map
end Go.Proofs

namespace Go.Proofs
open Go Go.Ab
inductive GSel (P:Bs->Prop):TSel->Prop
 | mk (s:TSel):GDirs P s.FDirs.l->(s.FKind≠2->s.FKind≠3->GArgs P s.FArgs.l)->(s.FKind≠2->∀x∈s.FSels.l,GSel P x)->GSel P s
theorem sel_allV (s:TSel):(s.FArgs.l.map TArg.sz).sum+(s.FDirs.l.map TDir.sz).sum+(s.FSels.l.map TSel.sz).sum+s.FAlias.length+s.FName.length+3<=s.sz:=by
 have h:=s.sz_def; have h1:Bs.sz s.FAlias=s.FAlias.length+1:=rfl; have h2:Bs.sz s.FName=s.FName.length+1:=rfl;have h3:(s.FArgs.l.map TArg.sz).sum+1=Sl.sz TArg.sz s.FArgs:=by unfold Sl.sz; omega
 have h5:(s.FDirs.l.map TDir.sz).sum+1=Sl.sz TDir.sz s.FDirs:=by unfold Sl.sz; omega
 have h4:(s.FSels.l.map TSel.sz).sum+1=Sl.sz TSel.sz s.FSels:=by unfold Sl.sz; omega
 omega
theorem fargs_vt (at_:Bs) (f:TField) (hf:∀i∈f.FArgs.l,SOk i.FType.FWraps):∀(l:List TArg) (c:Vars_checker),(∀a∈l,a.sz<=1048576)->VOk c->c.Fout.l.length+(l.map TArg.sz).sum<=900000000->Vt (Z133_q18 at_ f l c) c (l.map TArg.sz).sum (GArgs (·∈vnames c) l)
 | [],c,_,_,_=>Vt.pure c _ fun _ h=>by cases h
 | a::r,c,hx,hc,hb=>by
  have hs:=a.sz_def;have ha:=hx a (.head _);simp only [List.map_cons,List.sum_cons] at hb ⊢;rw [Z133_q18];simp only [Ab.on];refine Vt.bind (m:=(r.map TArg.sz).sum) (Q:=GArgs (·∈vnames c) r) (value_top c a.FValue _ _ at_ (by omega) (inputOf_sok hf _) hc (by omega)) (by omega) (fun h1 h2=>all_cons h1 h2) fun c' hq=>?_;have:=hq.hi;have h:=fargs_vt at_ f hf r c' (fun x h=>hx x (.tail _ h)) (hq.ok hc) (by omega)
  rw [hq.names] at h;exact h
def SelsV (n:Nat):Prop:=∀(c:Vars_checker) (l:Sl TSel) (on_ at_:Bs),2*(l.l.map TSel.sz).sum<n->(l.l.map TSel.sz).sum<=1048576->VOk c->at_.length+2*(l.l.map TSel.sz).sum<=100000000->c.Fout.l.length+(l.l.map TSel.sz).sum<=900000000 ->
 Vt (vars_checker_sels_qn n c l on_ at_) c (l.l.map TSel.sz).sum (∀x∈l.l,GSel (·∈vnames c) x)
def FieldV (n:Nat):Prop:=∀(c:Vars_checker) (s:TSel) (on_ at_:Bs),2*(s.FSels.l.map TSel.sz).sum+1<n->s.sz<=1048576->s.FKind≠2->s.FKind≠3->VOk c->at_.length+2*s.sz<=100000000->c.Fout.l.length+s.sz<=900000000 ->
 Vt (Z133_qn n c s on_ at_) c s.sz (GSel (·∈vnames c) s)
theorem field_step {n:Nat}(h:SelsV n):FieldV (n+1):=by
 intro c s on_ at_ hn hz h2 h3 hc ha hb;have hs:=sel_allV s;rw [Z133_qn];simp only [Ab.on];have hk:(bif (s.FAlias==([]:Bs)) then s.FName else s.FAlias).length<=s.FAlias.length+s.FName.length:=by
  cases (s.FAlias==([]:Bs))<;>simp
 generalize (bif (s.FAlias==([]:Bs)) then s.FName else s.FAlias)=key at hk ⊢;rw [catC_ok (by simp; omega),Option.bind_some,catC_ok (by simp; omega),Option.bind_some];have hf:∀i∈(bif ((Z92_q c.Fd on_).2&&(bif (Z92_q c.Fd on_).2 then Z90_q c.Fd on_ else false)) then((Z91_q (Z92_q c.Fd on_).1 s.FName).1) else(TField.zero)).FArgs.l,SOk i.FType.FWraps:=by
  have h0:∀f∈(Z92_q c.Fd on_).1.FFields.l,∀i∈f.FArgs.l,SOk i.FType.FWraps:=by
   rcases findD_mem c.Fd on_ with ⟨-,e⟩|h
   ·rw [e]; intro i hi; cases hi
   ·exact(hc.1 _ h).2
  cases ((Z92_q c.Fd on_).2&&(bif (Z92_q c.Fd on_).2 then Z90_q c.Fd on_ else false))
  ·intro i hi; cases hi
  ·exact fieldOf_sok h0 _
 generalize (bif ((Z92_q c.Fd on_).2&&(bif (Z92_q c.Fd on_).2 then Z90_q c.Fd on_ else false)) then((Z91_q (Z92_q c.Fd on_).1 s.FName).1) else(TField.zero))=fd at hf ⊢;have hlen:(at_++([47]++key:Bs)).length<=at_.length+1+s.FAlias.length+s.FName.length:=by simp; omega
 generalize (at_++([47]++key:Bs))=at2 at hlen ⊢;refine Vt.bind (m:=(s.FDirs.l.map TDir.sz).sum+(s.FSels.l.map TSel.sz).sum) (Q:=GDirs (·∈vnames c) s.FDirs.l/\∀x∈s.FSels.l,GSel (·∈vnames c) x) (fargs_vt at2 fd hf s.FArgs.l c (fun x hx'=>by have:=sum_mem (f:=TArg.sz) hx'; omega) hc (by omega)) (by omega) (fun a b=>⟨s,b.1,fun _ _=>a,fun _=>b.2⟩) fun c1 q1=>?_;have l1:=q1.hi;rw [<- q1.names];refine Vt.bind (m:=(s.FSels.l.map TSel.sz).sum) (Q:=∀x∈s.FSels.l,GSel (·∈vnames c1) x) (dirs_vt c1 s.FDirs at2 (fun x hx'=>by have:=sum_mem (f:=TDir.sz) hx'; omega) (q1.ok hc) (by omega)) (Nat.le_refl _) (fun a b=>⟨a,b⟩) fun c2 q2=>?_
 have l2:=q2.hi;rw [<- q2.names];exact(h c2 s.FSels _ at2 (by omega) (by omega) (q2.ok (q1.ok hc)) (by omega) (by omega)).map
theorem sels_step {n:Nat}(h:SelsV n) (hf:FieldV n):SelsV (n+1):=by
 intro c l on_ at_ hn hz hc ha hb;have loop:∀(t:List TSel) (c:Vars_checker),2*(t.map TSel.sz).sum<=n->(t.map TSel.sz).sum<=1048576->VOk c->at_.length+2*(t.map TSel.sz).sum<=100000000->c.Fout.l.length+(t.map TSel.sz).sum<=900000000 ->
   Vt (vars_checker_sels_q3 on_ at_ (vars_checker_sels_qn n) (Z133_qn n) t c) c (t.map TSel.sz).sum (∀x∈t,GSel (·∈vnames c) x):=by
  intro t;induction t with
  | nil=>intro c _ _ _ _ _; exact Vt.pure c _ fun _ h=>by cases h
  | cons s r ih =>
   intro c hn hz hc ha hb;simp only [List.map_cons,List.sum_cons] at hn hz ha hb ⊢;have hs:=sel_allV s;rw [vars_checker_sels_q3];simp only [Ab.on];refine Vt.bind (k:=s.sz) (P:=GSel (·∈vnames c) s) (m:=(r.map TSel.sz).sum) (Q:=∀x∈r,GSel (·∈vnames c) x) ?_ (Nat.le_refl _) (fun h1 h2=>all_cons h1 h2) fun c' hq=>?_
   ·have hd:=dirs_vt c s.FDirs at_ (fun x hx'=>by have:=sum_mem (f:=TDir.sz) hx'; omega) hc (by omega);by_cases h2:s.FKind=2
    ·rw [decide_eq_true h2,cond_true];exact hd.map.mono (by omega) fun g=>⟨s,g,fun e=>absurd h2 e,fun e=>absurd h2 e⟩
    ·rw [decide_eq_false h2,cond_false];by_cases h3:s.FKind=3
     ·rw [decide_eq_true h3,cond_true];refine Vt.bind (m:=(s.FSels.l.map TSel.sz).sum) (Q:=∀x∈s.FSels.l,GSel (·∈vnames c) x) hd (by omega) (fun a b=>⟨s,a,fun _ e=>absurd h3 e,fun _=>b⟩) fun c1 q1=>?_;have l1:=q1.hi;rw [<- q1.names];exact(h c1 s.FSels _ at_ (by omega) (by omega) (q1.ok hc) (by omega) (by omega)).map
     ·rw [decide_eq_false h3,cond_false];exact(hf c s on_ at_ (by omega) (by omega) h2 h3 hc (by omega) (by omega)).map
   ·have:=hq.hi;have h:=ih c' (by omega) (by omega) (hq.ok hc) (by omega) (by omega);rw [hq.names] at h;exact h
 rw [vars_checker_sels_qn];exact(loop l.l c (by omega) hz hc ha hb).map
theorem sels_all:∀n,SelsV n/\FieldV n
 | 0=>⟨fun _ _ _ _ h=>by omega,fun _ _ _ _ h=>by omega⟩
 | n+1=>⟨sels_step (sels_all n).1 (sels_all n).2,field_step (sels_all n).1⟩
theorem sels_vt (c:Vars_checker) (l:Sl TSel) (on_ at_:Bs) (h:(l.l.map TSel.sz).sum<=1048576) (hc:VOk c) (ha:at_.length<=1048576) (hb:c.Fout.l.length+(l.l.map TSel.sz).sum<=900000000) :
  Vt (vars_checker_sels_q c l on_ at_) c (l.l.map TSel.sz).sum (∀x∈l.l,GSel (·∈vnames c) x):=(sels_all F0).1 c l on_ at_ (by rw [F0_eq]; omega) h hc (by omega) hb
end Go.Proofs

namespace Go.Proofs
open Go Go.Ab
def addU (l:List Bs) (x:Bs):List Bs:=bif l.contains x then l else l++[x]
def dd (l:List Bs):List Bs:=l.foldl addU []
theorem dd_snoc (l:List Bs) (x:Bs):dd (l++[x])=addU (dd l) x:=by simp [dd,List.foldl_append]
theorem addU_len (l:List Bs) (x:Bs):(addU l x).length<=l.length+1:=by unfold addU; cases l.contains x<;>simp
theorem fold_len:∀(l a:List Bs),(l.foldl addU a).length<=a.length+l.length
 | [],a=>by simp
 | x::r,a=>by have:=fold_len r (addU a x); have:=addU_len a x; simp only [List.foldl_cons,List.length_cons]; omega
theorem dd_len (l:List Bs):(dd l).length<=l.length:=by have:=fold_len l []; simpa [dd] using this
theorem addU_nodup {l:List Bs}(h:l.Nodup) (x:Bs):(addU l x).Nodup:=by
 unfold addU;cases hc:l.contains x
 ·rw [cond_false];have hx:x∉l:=by simpa using hc
  exact List.nodup_append.2 ⟨h,by simp,fun a ha b hb=>by rw [List.mem_singleton.1 hb]; exact fun e=>hx (e▸ha)⟩
 ·exact h
theorem fold_nodup:∀(l a:List Bs),a.Nodup->(l.foldl addU a).Nodup
 | [],_,h=>h
 | x::r,_,h=>fold_nodup r _ (addU_nodup h x)
theorem dd_nodup (l:List Bs):(dd l).Nodup:=fold_nodup l [] List.nodup_nil
theorem addU_mem {l:List Bs}{x y:Bs}(h:y∈addU l x):y∈l\/y=x:=by
 unfold addU at h;cases hc:l.contains x
 ·rw [hc,cond_false] at h; simpa using h
 ·rw [hc] at h; exact .inl h
theorem fold_mem:∀(l a:List Bs) (y:Bs),y∈l.foldl addU a->y∈a\/y∈l
 | [],_,_,h=>.inl h
 | x::r,a,y,h=>by
  rcases fold_mem r _ y h with h|h
  ·rcases addU_mem h with h|h
   ·exact .inl h
   ·exact .inr (h▸.head _)
  ·exact .inr (.tail _ h)
theorem dd_mem {l:List Bs}{y:Bs}(h:y∈dd l):y∈l:=(fold_mem l [] y h).resolve_left (by simp)
def bigL:Nat:=549755813888
structure Uq (o o':Sl Bs) (k:Nat) (G:(Bs->Prop)->Prop):Prop where
 hi:o'.l.length<=o.l.length+k
 sub:∀P,G P->∀x∈o'.l,x∈o.l\/P x
def Ut (p:Option (Sl Bs)) (o:Sl Bs) (k:Nat) (G:(Bs->Prop)->Prop):Prop:=∃o',p=some o'/\Uq o o' k G
theorem Ut.pure (o:Sl Bs) (k:Nat) (G:(Bs->Prop)->Prop):Ut (some o) o k G:=⟨o,rfl,by omega,fun _ _ _ h=>.inl h⟩
theorem Ut.bind {p:Option (Sl Bs)}{f:Sl Bs->Option (Sl Bs)}{o:Sl Bs}{k m n:Nat}{G G' R:(Bs->Prop)->Prop}(h:Ut p o k G) (hn:k+m<=n) (hr:∀P,R P->G P/\G' P) (hf:∀o',o'.l.length<=o.l.length+k->Ut (f o') o' m G'):Ut (p.bind f) o n R:=by
 obtain⟨o1,e1,h1⟩:=h;obtain⟨o2,e2,h2⟩:=hf o1 h1.hi;refine⟨o2,by rw [e1]; exact e2,by have:=h1.hi; have:=h2.hi; omega,fun P hP x hx=>?_⟩;rcases h2.sub P (hr P hP).2 x hx with h|h
 ·exact h1.sub P (hr P hP).1 x h
 ·exact .inr h
theorem Ut.map {p:Option (Sl Bs)}{o:Sl Bs}{k:Nat}{G:(Bs->Prop)->Prop}(h:Ut p o k G):Ut (p.bind fun x=>some x) o k G:=by
 obtain⟨o1,e1,h1⟩:=h; exact⟨o1,by rw [e1]; rfl,h1⟩
theorem Ut.mono {p:Option (Sl Bs)}{o:Sl Bs}{k n:Nat}{G R:(Bs->Prop)->Prop}(h:Ut p o k G) (hn:k<=n) (hr:∀P,R P->G P):Ut p o n R:=by
 obtain⟨o1,e1,h1⟩:=h; exact⟨o1,e1,by have:=h1.hi; omega,fun P hP=>h1.sub P (hr P hP)⟩
theorem GVal.text {P:Bs->Prop}{v:TValue}(h:GVal P v) (h7:v.FKind=7):P v.FText:=by cases h with|mk _ a b=>exact a h7
theorem GVal.items {P:Bs->Prop}{v:TValue}(h:GVal P v) (h7:v.FKind=5\/v.FKind=6):∀x∈v.FItems.l,GVal P x:=by cases h with|mk _ a b=>exact b h7
theorem uses_ut:∀(n:Nat) (v:TValue) (o:Sl Bs),v.sz<n->o.l.length+v.sz<=bigL->Ut (Z136_qn n v o) o v.sz (fun P=>GVal P v)
 | 0,_,_,h,_=>by omega
 | n+1,v,o,hn,hb=>by
  have hs:=v.sz_def;have hp:=Bs.sz_pos v.FText;have hsum:(v.FItems.l.map TValue.sz).sum+1=Sl.sz TValue.sz v.FItems:=by unfold Sl.sz; omega
  have hb':=hb;unfold bigL at hb';rw [Z136_qn];by_cases h7:v.FKind=7
  ·rw [decide_eq_true h7,cond_true,appC_ok (by decide) (by simp; omega),Option.bind_some];refine⟨_,rfl,by simp; omega,fun P hP x hx=>?_⟩;rcases List.mem_append.1 hx with h|h
   ·exact .inl h
   ·rw [List.mem_singleton.1 h]; exact .inr (hP.text h7)
  ·rw [decide_eq_false h7,cond_false];simp only [Ab.on];by_cases h5:v.FKind=5\/v.FKind=6
   ·rw [show (bif decide (v.FKind=5) then decide (v.FKind=5) else decide (v.FKind=6))=true by rcases h5 with h|h<;>simp [h],cond_true];have loop:∀(l:List TValue) (o:Sl Bs),(∀x∈l,x.sz<n)->o.l.length+(l.map TValue.sz).sum<=bigL->Ut (Z136_q15 (Z136_qn n) l o) o (l.map TValue.sz).sum (fun P=>∀x∈l,GVal P x):=by
     intro l;induction l with
     | nil=>intro o _ _; exact Ut.pure o _ _
     | cons a r ih =>
      intro o hx hb;simp only [List.map_cons,List.sum_cons] at hb ⊢;rw [Z136_q15];simp only [Ab.on];exact(uses_ut n a o (hx a (.head _)) (by omega)).bind (Nat.le_refl _) (fun P h=>⟨h a (.head _),fun x hx=>h x (.tail _ hx)⟩) fun o' h'=>ih o' (fun x h=>hx x (.tail _ h)) (by omega)
    exact((loop v.FItems.l o (fun x hx=>by have:=Sl.mem_le (f:=TValue.sz) hx; omega) (by omega)).map.map).mono (by omega) fun P h=>h.items h5
   ·rw [show (bif decide (v.FKind=5) then decide (v.FKind=5) else decide (v.FKind=6))=false by
     have h1:¬v.FKind=5:=fun e=>h5 (.inl e);have h2:¬v.FKind=6:=fun e=>h5 (.inr e);simp [h1,h2],cond_false]
    exact Ut.pure o _ _
theorem uses_top (v:TValue) (o:Sl Bs) (hv:v.sz<=1048576) (hb:o.l.length+v.sz<=bigL):Ut (Z136_q v o) o v.sz (fun P=>GVal P v):=uses_ut F0 v o (by rw [F0_eq]; omega) hb
theorem wargs_ut:∀(l:List TArg) (o:Sl Bs),(∀a∈l,a.sz<=1048576)->o.l.length+(l.map TArg.sz).sum<=bigL->Ut (Z137_q63 l o) o (l.map TArg.sz).sum (fun P=>GArgs P l)
 | [],o,_,_=>Ut.pure o _ _
 | a::t,o,hx,hb=>by
  have hs:=a.sz_def;have ha:=hx a (.head _);simp only [List.map_cons,List.sum_cons] at hb ⊢;rw [Z137_q63];simp only [Ab.on];exact(uses_top a.FValue o (by omega) (by omega)).bind (m:=(t.map TArg.sz).sum) (by omega) (fun P h=>⟨h a (.head _),fun x hx=>h x (.tail _ hx)⟩) fun o' h1=>wargs_ut t o' (fun x hx'=>hx x (.tail _ hx')) (by omega)
theorem wdargs_ut:∀(l:List TArg) (o:Sl Bs),(∀a∈l,a.sz<=1048576)->o.l.length+(l.map TArg.sz).sum<=bigL->Ut (Z137_q51 l o) o (l.map TArg.sz).sum (fun P=>GArgs P l)
 | [],o,_,_=>Ut.pure o _ _
 | a::t,o,hx,hb=>by
  have hs:=a.sz_def;have ha:=hx a (.head _);simp only [List.map_cons,List.sum_cons] at hb ⊢;rw [Z137_q51];simp only [Ab.on];exact(uses_top a.FValue o (by omega) (by omega)).bind (m:=(t.map TArg.sz).sum) (by omega) (fun P h=>⟨h a (.head _),fun x hx=>h x (.tail _ hx)⟩) fun o' h1=>wdargs_ut t o' (fun x hx'=>hx x (.tail _ hx')) (by omega)
theorem wdirs_ut:∀(l:List TDir) (o:Sl Bs),(∀a∈l,a.sz<=1048576)->o.l.length+(l.map TDir.sz).sum<=bigL->Ut (Z137_q39 l o) o (l.map TDir.sz).sum (fun P=>GDirs P l)
 | [],o,_,_=>Ut.pure o _ _
 | a::t,o,hx,hb=>by
  have hs:=a.sz_def;have ha:=hx a (.head _);have hsum:(a.FArgs.l.map TArg.sz).sum+1=Sl.sz TArg.sz a.FArgs:=by unfold Sl.sz; omega
  simp only [List.map_cons,List.sum_cons] at hb ⊢;rw [Z137_q39];simp only [Ab.on];exact(wdargs_ut a.FArgs.l o (fun x hx'=>by have:=Sl.mem_le (f:=TArg.sz) hx'; omega) (by omega)).bind (m:=(t.map TDir.sz).sum) (by omega) (fun P h=>⟨h a (.head _),fun x hx=>h x (.tail _ hx)⟩) fun o' h1=>wdirs_ut t o' (fun x hx'=>hx x (.tail _ hx')) (by omega)
inductive NArg:TSel->Prop
 | mk (s:TSel):(s.FKind=2\/s.FKind=3->s.FArgs.l=[])->(∀x∈s.FSels.l,NArg x)->NArg s
theorem insS_mem' (l:List Bs) (s n:Bs):n∈insS l s↔n∈l\/n=s:=by
 unfold insS;cases hc:l.contains s
 ·simp [or_comm]
 ·have:s∈l:=by simpa using hc
  simp only [if_true,cond_true];exact⟨.inl,fun h=>h.elim id fun e=>e▸this⟩
def wgt (fr:Sl TFrag) (T:Nat) (s:List Bs):Nat:=unseen fr s*(T+1)
theorem wgt_le {fr:Sl TFrag}{T:Nat}{a b:List Bs}(h:∀s∈a,s∈b):wgt fr T b<=wgt fr T a:=Nat.mul_le_mul_right _ (unseen_le h)
theorem wgt_lt {fr:Sl TFrag}{T:Nat}{a b:List Bs}(h:∀s∈a,s∈b){f:TFrag}(hf:f∈fr.l) (h1:f.FName∉a) (h2:f.FName∈b):wgt fr T b+(T+1)<=wgt fr T a:=by
 have h3:(unseen fr b+1)*(T+1)<=unseen fr a*(T+1):=Nat.mul_le_mul_right _ (unseen_lt h hf h1 h2);rw [Nat.succ_mul] at h3; exact h3
def GW (q:TQuery) (l:List TSel) (sp:List Bs) (P:Bs->Prop):Prop:=(∀s∈l,GSel P s)/\(∀s∈sp,∀x∈(fndG q.FFrags.l s).1.FSels.l,GSel P x)
def Wlk (q:TQuery) (T:Nat) (p:Option (Sl Bs×List Bs)) (l:List TSel) (o:Sl Bs) (sp:List Bs) (m:Nat):Prop :=
 ∃o' sp',p=some (o',sp')/\(∀x∈sp,x∈sp')/\o'.l.length+wgt q.FFrags T sp'<=o.l.length+wgt q.FFrags T sp+m/\∀P,GW q l sp' P->∀x∈o'.l,x∈o.l\/P x
theorem walk_step {q:TQuery}{T n:Nat}(hT1:T<=1048576) (hT:∀f∈q.FFrags.l,(f.FSels.l.map TSel.sz).sum<=T) (hA:∀f∈q.FFrags.l,∀x∈f.FSels.l,NArg x)
  (ih:∀(l:Sl TSel) (o:Sl Bs) (sp:List Bs),wgt q.FFrags T sp+(l.l.map TSel.sz).sum<n->(l.l.map TSel.sz).sum<=T->(∀x∈l.l,NArg x) ->
   o.l.length+wgt q.FFrags T sp+(l.l.map TSel.sz).sum<=bigL->Wlk q T (Z137_qn n q l sp o) l.l o sp (l.l.map TSel.sz).sum) :
  ∀(l:List TSel) (o:Sl Bs) (sp:List Bs),wgt q.FFrags T sp+(l.map TSel.sz).sum<=n->(l.map TSel.sz).sum<=T->(∀x∈l,NArg x) ->
   o.l.length+wgt q.FFrags T sp+(l.map TSel.sz).sum<=bigL->Wlk q T (Z137_q8 q (Z137_qn n) l o sp) l o sp (l.map TSel.sz).sum
 | [],o,sp,_,_,_,_=>⟨o,sp,rfl,fun _ h=>h,by omega,fun _ _ _ h=>.inl h⟩
 | h::t,o,sp,hn,hl,hna,hb=>by
  simp only [List.map_cons,List.sum_cons] at hn hl hb ⊢;have hp:=sel_allV h;obtain⟨ha1,ha2⟩:(h.FKind=2\/h.FKind=3->h.FArgs.l=[])/\(∀x∈h.FSels.l,NArg x):=by cases hna h (.head _) with|mk _ a b=>exact⟨a,b⟩
  have hargs:∀P,GSel P h->GArgs P h.FArgs.l:=by
   intro P hP;cases hP with
   | mk _ g1 g2 g3 =>
    by_cases h2:h.FKind=2
    ·rw [ha1 (.inl h2)]; intro _ h; cases h
    ·by_cases h3:h.FKind=3
     ·rw [ha1 (.inr h3)]; intro _ h; cases h
     ·exact g2 h2 h3
  have hdirs:∀P,GSel P h->GDirs P h.FDirs.l:=by intro P hP; cases hP with|mk _ g1 g2 g3=>exact g1
  obtain⟨o1,e1,q1⟩:=wargs_ut h.FArgs.l o (fun x hx=>by have:=sum_mem (f:=TArg.sz) hx; omega) (by omega);have l1:=q1.hi;obtain⟨o2,e2,q2⟩:=wdirs_ut h.FDirs.l o1 (fun x hx=>by have:=sum_mem (f:=TDir.sz) hx; omega) (by omega);have l2:=q2.hi;have own:∀P,GSel P h->∀x∈o2.l,x∈o.l\/P x:=fun P hP x hx=>by
   rcases q2.sub P (hdirs P hP) x hx with hx|hx
   ·exact q1.sub P (hargs P hP) x hx
   ·exact .inr hx
  rw [Z137_q8];simp only [Ab.on,ffind_eq];rw [e1,Option.bind_some,e2,Option.bind_some];have rest:∀(p:Option (Sl Bs×List Bs)) (o3:Sl Bs) (sp3:List Bs),p=some (o3,sp3)->(∀x∈sp,x∈sp3)->o3.l.length+wgt q.FFrags T sp3<=o2.l.length+wgt q.FFrags T sp+(h.FSels.l.map TSel.sz).sum ->
    (∀P spf,(∀x∈sp3,x∈spf)->GSel P h->GW q [] spf P->∀x∈o3.l,x∈o2.l\/P x) ->
    Wlk q T (p.bind fun z=>Z137_q8 q (Z137_qn n) t z.1 z.2) (h::t) o sp (h.sz+(t.map TSel.sz).sum):=by
   intro p o3 sp3 f1 f2 f3 f4;have hw:=wgt_le (fr:=q.FFrags) (T:=T) f2;obtain⟨o4,sp4,g1,g2,g3,g4⟩:=walk_step hT1 hT hA ih t o3 sp3 (by omega) (by omega) (fun x hx=>hna x (.tail _ hx)) (by omega);refine⟨o4,sp4,by rw [f1]; exact g1,fun x hx=>g2 x (f2 x hx),by omega,fun P hP x hx=>?_⟩;rcases g4 P ⟨fun s hs=>hP.1 s (.tail _ hs),hP.2⟩ x hx with hx|hx
   ·rcases f4 P sp4 g2 (hP.1 h (.head _)) ⟨fun s hs=>(by cases hs),hP.2⟩ x hx with hx|hx
    ·exact own P (hP.1 h (.head _)) x hx
    ·exact .inr hx
   ·exact .inr hx
  by_cases h2:h.FKind=2
  ·rw [decide_eq_true h2,cond_true];have skip:=rest (some (o2,sp)) o2 sp rfl (fun _ h=>h) (by omega) (fun _ _ _ _ _ _ h=>.inl h);cases hf:(fndG q.FFrags.l h.FName).2
   ·simp only [Bool.not_false,Bool.true_or,cond_true];exact skip
   ·obtain⟨hn1,hm⟩:=fndG_name hf;simp only [Bool.not_true,Bool.false_or];cases hc:sp.contains h.FName
    ·have hc':h.FName∉sp:=by simpa using hc
     rw [cond_false];have hsub:∀x∈sp,x∈insS sp h.FName:=fun x hx=>(insS_mem' _ _ _).2 (.inl hx);have hin:h.FName∈insS sp h.FName:=(insS_mem' _ _ _).2 (.inr rfl);have hwl:=wgt_lt (fr:=q.FFrags) (T:=T) hsub hm (by rw [hn1]; exact hc') (by rw [hn1]; exact hin);have hTm:=hT _ hm;obtain⟨o3,sp3,f1,f2,f3,f4⟩:=ih (fndG q.FFrags.l h.FName).1.FSels o2 (insS sp h.FName) (by omega) hTm (hA _ hm) (by omega);refine rest _ o3 sp3 (by rw [f1]; rfl) (fun x hx=>f2 x (hsub x hx)) (by omega) fun P spf hspf _ hW x hx=>?_
     exact f4 P ⟨fun s hs=>hW.2 h.FName (hspf _ (f2 _ hin)) s hs,fun s hs=>hW.2 s (hspf s hs)⟩ x hx
    ·rw [cond_true];exact skip
  ·rw [decide_eq_false h2,cond_false];obtain⟨o3,sp3,f1,f2,f3,f4⟩:=ih h.FSels o2 sp (by omega) (by omega) ha2 (by omega);refine rest _ o3 sp3 (by rw [f1]; rfl) f2 (by omega) fun P spf hspf hP hW x hx=>?_;have hin:∀s∈h.FSels.l,GSel P s:=by cases hP with|mk _ g1 g2 g3=>exact g3 h2
   exact f4 P ⟨hin,fun s hs=>hW.2 s (hspf s hs)⟩ x hx
theorem walk_all {q:TQuery}{T:Nat}(hT1:T<=1048576) (hT:∀f∈q.FFrags.l,(f.FSels.l.map TSel.sz).sum<=T) (hA:∀f∈q.FFrags.l,∀x∈f.FSels.l,NArg x):∀(n:Nat) (l:Sl TSel) (o:Sl Bs) (sp:List Bs),wgt q.FFrags T sp+(l.l.map TSel.sz).sum<n->(l.l.map TSel.sz).sum<=T->(∀x∈l.l,NArg x) ->
   o.l.length+wgt q.FFrags T sp+(l.l.map TSel.sz).sum<=bigL->Wlk q T (Z137_qn n q l sp o) l.l o sp (l.l.map TSel.sz).sum
 | 0,_,_,_,h,_,_,_=>by omega
 | n+1,l,o,sp,hn,hl,hna,hb=>by
  obtain⟨o3,sp3,f1,f2⟩:=walk_step hT1 hT hA (walk_all hT1 hT hA n) l.l o sp (by omega) hl hna hb;exact⟨o3,sp3,by rw [Z137_qn,f1]; rfl,f2⟩
theorem walk_par (q:TQuery):∀(n:Nat) (l:Sl TSel) (o:Sl Bs) (sp:List Bs) (s:Sl Bs) (o':Sl Bs) (sp':List Bs) (s':Sl Bs) (b:Bool),(∀x,x∈s.l↔x∈sp)->Z137_qn n q l sp o=some (o',sp')->Z88_qn n q l s=some (s',b)->∀x,x∈s'.l↔x∈sp'
 | 0,_,_,_,_,_,_,_,_,_,h,_=>by cases h
 | n+1,l,o,sp,s,o',sp',s',b,hs,h1,h2=>by
  have loop:∀(t:List TSel) (o:Sl Bs) (sp:List Bs) (s:Sl Bs) (b:Bool) (o':Sl Bs) (sp':List Bs) (s':Sl Bs) (b':Bool),(∀x,x∈s.l↔x∈sp)->Z137_q8 q (Z137_qn n) t o sp=some (o',sp')->Z88_q8 q (Z88_qn n) t s b=some (s',b')->∀x,x∈s'.l↔x∈sp':=by
   intro t;induction t with
   | nil =>
    intro o sp s b o' sp' s' b' hs h1 h2;rw [Z137_q8] at h1;rw [Z88_q8] at h2;cases h1; cases h2; exact hs
   | cons h r ih =>
    intro o sp s b o' sp' s' b' hs h1 h2;rw [Z137_q8] at h1;rw [Z88_q8] at h2;simp only [Ab.on,ffind_eq] at h1;simp only [Ab.on,rfind_eq,has_eq] at h2;obtain⟨o1,-,h1⟩:=Option.bind_eq_some_iff.1 h1;obtain⟨o2,-,h1⟩:=Option.bind_eq_some_iff.1 h1;obtain⟨⟨o3,sp3⟩,k1,h1⟩:=Option.bind_eq_some_iff.1 h1;obtain⟨⟨s3,b3⟩,k2,h2⟩:=Option.bind_eq_some_iff.1 h2;refine ih o3 sp3 s3 b3 o' sp' s' b' ?_ h1 h2;by_cases hk:h.FKind=2
    ·rw [decide_eq_true hk,cond_true] at k1 k2;cases hf:(fndG q.FFrags.l h.FName).2
     ·rw [hf] at k1 k2;simp only [Bool.not_false,Bool.true_or,cond_true] at k1 k2;cases k1; cases k2; exact hs
     ·rw [hf] at k1 k2;simp only [Bool.not_true,Bool.false_or,cond_false] at k1 k2;rw [(fndG_name hf).1] at k2;have hcc:s.l.contains h.FName=sp.contains h.FName:=by rw [Bool.eq_iff_iff]; simp [hs]
      rw [hcc] at k2;cases hc:sp.contains h.FName
      ·rw [hc] at k1 k2;simp only [cond_false,Bool.not_false,cond_true] at k1 k2;obtain⟨⟨o4,sp4⟩,m1,k1⟩:=Option.bind_eq_some_iff.1 k1;obtain⟨s5,m5,k2⟩:=Option.bind_eq_some_iff.1 k2;obtain⟨⟨s4,b4⟩,m2,k2⟩:=Option.bind_eq_some_iff.1 k2;cases k1; cases k2;refine walk_par q n _ _ _ s5 _ _ _ _ (fun x=>?_) m1 m2;unfold appC at m5
       split at m5
       ·cases m5;show x∈s.l++[h.FName]↔_;rw [List.mem_append,List.mem_singleton,hs,insS_mem']
       ·cases m5
      ·rw [hc] at k1 k2;simp only [cond_true,Bool.not_true,cond_false] at k1 k2;cases k1; cases k2; exact hs
    ·rw [decide_eq_false hk,cond_false] at k1 k2;obtain⟨⟨o4,sp4⟩,m1,k1⟩:=Option.bind_eq_some_iff.1 k1;obtain⟨⟨s4,b4⟩,m2,k2⟩:=Option.bind_eq_some_iff.1 k2;cases k1; cases k2;exact walk_par q n _ _ _ _ _ _ _ _ hs m1 m2
  rw [Z137_qn] at h1;rw [Z88_qn] at h2;obtain⟨⟨o1,sp1⟩,k1,h1⟩:=Option.bind_eq_some_iff.1 h1;obtain⟨⟨s1,b1⟩,k2,h2⟩:=Option.bind_eq_some_iff.1 h2;cases h1; cases h2;exact loop l.l o sp s _ _ _ _ _ hs k1 k2
end Go.Proofs
