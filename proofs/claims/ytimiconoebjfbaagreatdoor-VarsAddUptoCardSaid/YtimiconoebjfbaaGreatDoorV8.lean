import Derived.Test.YtimiconoebjfbaaGreatDoorV7
set_option maxRecDepth 100000
set_option maxHeartbeats 2000000
set_option linter.unusedVariables false
set_option linter.unusedSimpArgs false
namespace Go.Proofs
open Go Go.Ab
def Tl {α:Type}(o:Option (Sl α)) (b:Nat):Prop:=∃r,o=some r/\r.l.length<=b
theorem Tl.mono {α:Type}{o:Option (Sl α)}{a b:Nat}(h:Tl o a) (hb:a<=b):Tl o b:=by obtain⟨r,h1,h2⟩:=h; exact⟨r,h1,by omega⟩
theorem app24 {s r:Sl Z1}(h:s.l.length+r.l.length<=1073741824):∃v,appC 24 s r=some v/\v.l.length=s.l.length+r.l.length:=⟨_,appC_ok (by decide) (by omega),by simp⟩
theorem Tl.add1 {s:Sl Z1}{x:Z1}{b:Nat}(h:s.l.length<=b) (hb:b<=1000000000):Tl ((appC 24 s (⟨false,[x]⟩:Sl Z1)).bind fun y=>some y) (b+1):=by
 obtain⟨v,h1,h2⟩:=app24 (s:=s) (r:=⟨false,[x]⟩) (by simp; omega);exact⟨v,by rw [h1]; rfl,by rw [h2]; simp; omega⟩
theorem Tl.bind {α β:Type}{o:Option (Sl α)}{k:Sl α->Option (Sl β)}{a b:Nat}(h:Tl o a) (hk:∀r:Sl α,r.l.length<=a->Tl (k r) b):Tl (o.bind k) b:=by
 obtain⟨r,h1,h2⟩:=h;rw [h1]; exact hk r h2
theorem Bs.len_le (s:Bs):s.length<=Bs.sz s:=Nat.le_succ _
theorem reserved_ok (s:Bs):∃v,Z26_q s=some v:=by
 unfold Z26_q
 match s with
 | []=>exact⟨_,rfl⟩
 | [a]=>exact⟨_,rfl⟩
 | a::b::r =>
  rw [show decide ((2:Int)<=(((a::b::r:Bs).length:Nat):Int))=true from decide_eq_true (by simp only [List.length_cons]; omega)];simp only [guardO,if_true,List.getElem?_cons_zero,List.getElem?_cons_succ,Option.bind_some,Bool.true_and]
  split<;>exact⟨_,rfl⟩
theorem allowed_ok (s:Bs):∃v,Z61_q s=some v:=by
 unfold Z61_q;simp only [Ab.on];cases Z25_q s
 ·exact⟨_,rfl⟩
 ·obtain⟨v,hv⟩:=reserved_ok s;simp only [guardO,if_true,hv];exact⟨_,rfl⟩
theorem names_tl (a:Bs) (b c:Bool) (d:Bs):Tl (Z70_q a b c d) 2:=by
 unfold Z70_q;obtain⟨v,hv⟩:=allowed_ok a;have h1:∀z:Bool,Tl (bif z then((appC 24 (Sl.nil:Sl Z1) (⟨false,[(Z1.mk (6:Int) d)]⟩:Sl Z1)).bind fun x14=>some x14) else(some (Sl.nil:Sl Z1))) 1:=by
  intro z;cases z
  ·exact⟨Sl.nil,rfl,by simp [Sl.nil]⟩
  ·exact Tl.add1 (s:=Sl.nil) (b:=0) (Nat.le_refl _) (by omega)
 have h2:∀z,Tl (Option.bind (bif z then((appC 24 (Sl.nil:Sl Z1) (⟨false,[(Z1.mk (6:Int) d)]⟩:Sl Z1)).bind fun x14=>some x14) else(some (Sl.nil:Sl Z1))) fun s9_4=>Option.bind (bif c then((appC 24 s9_4 (⟨false,[(Z1.mk (7:Int) d)]⟩:Sl Z1)).bind fun x10=>some x10) else(some s9_4)) fun s9_6=>some s9_6) 2:=by
  intro z;refine(h1 z).bind fun r hr=>?_;cases c
  ·exact⟨r,rfl,by omega⟩
  ·refine(Tl.add1 hr (by omega)).bind fun q hq=>⟨q,rfl,by omega⟩
 cases b
 ·simp only [guardO,Bool.not_false,if_true,hv,Option.bind_some]; exact h2 _
 ·exact h2 true
theorem Tl.appT {s:Sl Z1}{o:Option (Sl Z1)}{a b c:Nat}{k:Sl Z1->Option (Sl Z1)}(hs:s.l.length<=a) (h:Tl o b) (hb:a+b<=1000000000) (hk:∀r:Sl Z1,r.l.length<=a+b->Tl (k r) c):Tl (o.bind fun x=>(appC 24 s x).bind k) c:=by
 obtain⟨r,h1,h2⟩:=h;obtain⟨v,h3,h4⟩:=app24 (s:=s) (r:=r) (by omega);rw [h1,Option.bind_some,h3,Option.bind_some];exact hk v (by omega)
theorem inputs_loop (d:TDoc) (a1:Sl Z4) (p q:Bs) (hp:p.length<=10000000) (hq:q.length<=10):∀(l:List Z4) (i:Nat) (s:Sl Z1),(∀x∈l,x.FName.length<=1048576)->s.l.length+3*l.length<=900000000->Tl (Z67_q7 d a1 p q l i s) (s.l.length+3*l.length)
 | [],i,s,_,_=>⟨s,rfl,by simp⟩
 | x::l,i,s,hx,hs=>by
  have hn:=hx x (.head _);simp only [List.length_cons] at hs;rw [Z67_q7];simp only [Ab.on];rw [catC_ok (by omega),Option.bind_some,catC_ok (by simp; omega),Option.bind_some];refine Tl.appT (Nat.le_refl _) (names_tl _ _ _ _) (by omega) fun r hr=>?_;have key:∀(y:Z1),Tl (Option.bind ((appC 24 r (⟨false,[y]⟩:Sl Z1)).bind fun z=>some z) fun s9_15=>Z67_q7 d a1 p q l (i+1) s9_15) (s.l.length+3*(l.length+1)):=by
   intro y;refine(Tl.add1 hr (by omega)).bind fun v hv=>?_;exact(inputs_loop d a1 p q hp hq l (i+1) v (fun z hz=>hx z (.tail _ hz)) (by omega)).mono (by omega)
  rw [List.length_cons];cases Z68_q d x.FType.FName
  ·exact key _
  ·cases Z56_q d x.FType.FName
   ·exact key _
   ·exact(inputs_loop d a1 p q hp hq l (i+1) r (fun z hz=>hx z (.tail _ hz)) (by omega)).mono (by omega)
theorem inputs_tl (d:TDoc) (a1:Sl Z4) (p q:Bs) (hp:p.length<=10000000) (hq:q.length<=10) (h1:Sl.sz Z4.sz a1<=1048576):Tl (Z67_q d a1 p q) (3*a1.l.length):=by
 unfold Z67_q;have hl:=Sl.len_le (f:=Z4.sz) a1 (fun x=>Z4.pos x);have:=inputs_loop d a1 p q hp hq a1.l 0 Sl.nil (fun x hx=>by
  have h2:=Sl.mem_le (f:=Z4.sz) hx;have h3:=x.sz_def;have h4:x.FName.length<=Bs.sz x.FName:=Bs.len_le _;omega) (by simp [Sl.nil]; omega)
 obtain⟨r,h2,h3⟩:=this;rw [h2];exact⟨r,rfl,by simpa [Sl.nil] using h3⟩
theorem fields_loop (d:TDoc) (a1:TDef) (ha:a1.FName.length<=1048576):∀(l:List Z2) (i:Nat) (s:Sl Z1),(l.map Z2.sz).sum<=1048576->s.l.length+3*(l.map Z2.sz).sum<=900000000->Tl (Z65_q7 d a1 l i s) (s.l.length+3*(l.map Z2.sz).sum)
 | [],i,s,_,_=>⟨s,rfl,by simp⟩
 | x::l,i,s,hx,hs=>by
  simp only [List.map_cons,List.sum_cons] at hx hs;have h3:=x.sz_def;have h4:x.FName.length<=Bs.sz x.FName:=Bs.len_le _;have h5:=Sl.len_le (f:=Z4.sz) x.FArgs (fun x=>Z4.pos x);have h6:=Bs.sz_pos x.FName;rw [Z65_q7];simp only [Ab.on];rw [catC_ok (by simp; omega),Option.bind_some,catC_ok (by simp; omega),Option.bind_some];refine Tl.appT (Nat.le_refl _) (names_tl _ _ _ _) (by omega) fun r hr=>?_;have rest:∀v:Sl Z1,v.l.length<=s.l.length+3->Tl ((catC (a1.FName++[46]++x.FName) ([40]:Bs)).bind fun x31=>(Z67_q d x.FArgs x31 ([41]:Bs)).bind fun x32=>(appC 24 v x32).bind fun x33=>Z65_q7 d a1 l (i+1) x33) (s.l.length+3*(x.sz+(l.map Z2.sz).sum)):=by
   intro v hv;rw [catC_ok (by simp; omega),Option.bind_some];refine Tl.appT hv (inputs_tl d x.FArgs _ _ (by simp; omega) (by simp) (by omega)) (by omega) fun w hw=>?_;exact(fields_loop d a1 ha l (i+1) w (by omega) (by omega)).mono (by omega)
  have key:∀(y:Z1),Tl (Option.bind ((appC 24 r (⟨false,[y]⟩:Sl Z1)).bind fun z=>some z) fun s5_30=>(catC (a1.FName++[46]++x.FName) ([40]:Bs)).bind fun x31=>(Z67_q d x.FArgs x31 ([41]:Bs)).bind fun x32=>(appC 24 s5_30 x32).bind fun x33=>Z65_q7 d a1 l (i+1) x33) (s.l.length+3*(x.sz+(l.map Z2.sz).sum)):=by
   intro y;exact(Tl.add1 hr (by omega)).bind fun v hv=>rest v (by omega)
  simp only [List.map_cons,List.sum_cons];cases Z68_q d x.FType.FName
  ·exact key _
  ·cases hz:((!Z60_q x.FType.FName)&&(Z54_q d x.FType.FName).2)&&decide ((Z54_q d x.FType.FName).1.FKind=5)
   ·exact rest r (by omega)
   ·exact key _
theorem fields_tl (d:TDoc) (a1:TDef) (h:a1.sz<=1048576):Tl (Z65_q d a1) (3*a1.sz):=by
 unfold Z65_q;have h3:=a1.sz_def;have h4:a1.FName.length<=Bs.sz a1.FName:=Bs.len_le _;have h5:Sl.sz Z2.sz a1.FFields=1+(a1.FFields.l.map Z2.sz).sum:=rfl;obtain⟨r,h1,h2⟩:=fields_loop d a1 (by omega) a1.FFields.l 0 Sl.nil (by omega) (by simp [Sl.nil]; omega);rw [h1];exact⟨r,rfl,by simp [Sl.nil] at h2; omega⟩
theorem again_ok (a:TDef) (x:Z5):∀(n i:Nat) (b:Bool),i+n<=a.FMembers.l.length->∃v,Z69_q26 a x n i b=some v
 | 0,_,b,_=>⟨b,rfl⟩
 | n+1,i,b,h=>by
  rw [Z69_q26];cases b
  ·simp only [guardO,Bool.not_false,if_true];rw [List.getElem?_eq_getElem (show i<a.FMembers.l.length by omega),Option.bind_some];exact again_ok a x n (i+1) _ (by omega)
  ·simp only [guardO,Bool.not_true];exact again_ok a x n (i+1) _ (by omega)
theorem members_loop (a:TDef) (ha:a.FName.length<=1048576):∀(l:List Z5) (i:Nat) (s:Sl Z1),(∀x∈l,x.FName.length<=1048576)->i+l.length=a.FMembers.l.length->s.l.length+2*l.length<=900000000->Tl (Z69_q7 a l i s) (s.l.length+2*l.length)
 | [],i,s,_,_,_=>⟨s,rfl,by simp⟩
 | x::l,i,s,hx,hi,hs=>by
  have hn:=hx x (.head _);simp only [List.length_cons] at hs hi;rw [Z69_q7];simp only [Ab.on];obtain⟨v,hv⟩:=again_ok a x i 0 false (by omega);rw [hv,Option.bind_some,catC_ok (by simp; omega),Option.bind_some,catC_ok (by simp; omega),Option.bind_some];refine Tl.appT (Nat.le_refl _) (names_tl _ _ _ _) (by omega) fun r hr=>?_;exact(members_loop a ha l (i+1) r (fun z hz=>hx z (.tail _ hz)) (by omega) (by omega)).mono (by simp only [List.length_cons]; omega)
theorem members_tl (a:TDef) (h:a.sz<=1048576):Tl (Z69_q a) (3*a.sz):=by
 unfold Z69_q;have h3:=a.sz_def;have h4:a.FName.length<=Bs.sz a.FName:=Bs.len_le _;have h5:=Sl.len_le (f:=Z5.sz) a.FMembers (fun x=>Z5.pos x);obtain⟨r,h1,h2⟩:=members_loop a (by omega) a.FMembers.l 0 Sl.nil (fun x hx=>by
  have h6:=Sl.mem_le (f:=Z5.sz) hx;have h7:=x.sz_def;have h8:x.FName.length<=Bs.sz x.FName:=Bs.len_le _;omega) (by simp) (by simp [Sl.nil]; omega)
 rw [h1];exact⟨r,rfl,by simp [Sl.nil] at h2; omega⟩
def left (U s:List Bs):Nat:=(U.filter fun x=>!s.contains x).length
theorem left_add {U s:List Bs}{x:Bs}(hU:x∈U) (hs:s.contains x=false):left U (s++[x])+1<=left U s:=by
 have mono:∀l:List Bs,(l.filter fun y=>!(s++[x]).contains y).length<=(l.filter fun y=>!s.contains y).length:=by
  intro l;induction l with
  | nil=>simp
  | cons a r ih =>
   have ha:s.contains a=true->(s++[x]).contains a=true:=by
    intro h;simp only [List.contains_eq_mem,decide_eq_true_eq,List.mem_append] at h ⊢;exact .inl h
   cases h1:s.contains a
   ·cases h2:(s++[x]).contains a
    ·rw [List.filter_cons_of_pos (by rw [h2]; rfl),List.filter_cons_of_pos (by rw [h1]; rfl)];simp only [List.length_cons]; omega
    ·rw [List.filter_cons_of_neg (by rw [h2]; decide),List.filter_cons_of_pos (by rw [h1]; rfl)];simp only [List.length_cons]; omega
   ·rw [List.filter_cons_of_neg (by rw [ha h1]; decide),List.filter_cons_of_neg (by rw [h1]; decide)]; exact ih
 unfold left;obtain⟨a,b,rfl⟩:=List.append_of_mem hU;rw [List.filter_append,List.filter_append,List.length_append,List.length_append];have hx:(s++[x]).contains x=true:=by simp
 rw [List.filter_cons_of_neg (by rw [hx]; decide),List.filter_cons_of_pos (by rw [hs]; rfl)];have h1:=mono a;have h2:=mono b;simp only [List.length_cons]; omega
def inNames (d:TDef):List Bs:=d.FInputs.l.map fun x=>x.FType.FName
def docNames (d:TDoc):List Bs:=d.FDefs.l.flatMap inNames
theorem docNames_len (d:TDoc):(docNames d).length<=d.sz:=by
 have h1:=d.sz_def;have h2:Sl.sz TDef.sz d.FDefs=1+(d.FDefs.l.map TDef.sz).sum:=rfl;have:∀l:List TDef,(l.flatMap inNames).length<=(l.map TDef.sz).sum:=by
  intro l;induction l with
  | nil=>simp
  | cons a r ih =>
   have h3:=a.sz_def;have h5:=Sl.len_le (f:=Z4.sz) a.FInputs (fun x=>Z4.pos x);simp only [List.flatMap_cons,List.length_append,List.map_cons,List.sum_cons];have:(inNames a).length=a.FInputs.l.length:=by unfold inNames; rw [List.length_map]
   omega
 have:=this d.FDefs.l;unfold docNames; omega
theorem has_false:∀(l:List Bs) (x:Bs),(match Z66_q5 x l with|Sum.inl _=>false|Sum.inr e=>e)=l.contains x
 | [],_=>rfl
 | a::r,x=>by
  rw [Z66_q5,List.contains_cons];simp only [Ab.on];by_cases h:a=x
  ·subst h; simp
  ·have h2:(a==x)=false:=by simpa using h
   have h3:(x==a)=false:=by simpa using fun e=>h e.symm
   rw [h2,h3,cond_false,Bool.false_or]; exact has_false r x
theorem direct_ok (t:TRef):∃b,Z63_q t=some b:=by
 unfold Z63_q;by_cases h:t.FWraps.l.length=1
 ·rw [show decide (((t.FWraps.l.length:Nat):Int)=1)=true from decide_eq_true (by omega)];simp only [guardO,if_true];rw [List.getElem?_eq_getElem (show 0<t.FWraps.l.length by omega)];exact⟨_,rfl⟩
 ·rw [show decide (((t.FWraps.l.length:Nat):Int)=1)=false from decide_eq_false (by omega)];exact⟨_,rfl⟩
def Vs (U:List Bs) (M:Nat) (s:Sl Bs):Prop:=s.l.length+left U s.l<=M
theorem next_loop (d:TDoc) (c:Bs) (U:List Bs) (M:Nat) (hM:M<=2000000):∀(l:List Z4) (s:Sl Bs),(∀x∈l,x.FType.FName∈U)->Vs U M s->∃r,Z71_q6 d c l s=some r/\Vs U M r/\s.l.length<=r.l.length
 | [],s,_,h=>⟨s,rfl,h,Nat.le_refl _⟩
 | x::l,s,hx,h=>by
  have hn:=hx x (.head _);have hx':∀z∈l,z.FType.FName∈U:=fun z hz=>hx z (.tail _ hz);obtain⟨b,hb⟩:=direct_ok x.FType;rw [Z71_q6];simp only [Ab.on];rw [hb,Option.bind_some];generalize (b&&((x.FType.FName==c)||((Z54_q d x.FType.FName).2&&decide ((Z54_q d x.FType.FName).1.FKind=5))))=w;have hq:Z66_q s x.FType.FName=s.l.contains x.FType.FName:=by
   rw [<- has_false]; unfold Z66_q; simp only [Ab.on];cases Z66_q5 x.FType.FName s.l<;>rfl
  cases w
  ·exact next_loop d c U M hM l s hx' h
  ·rw [cond_true,hq];cases hc:s.l.contains x.FType.FName
   ·unfold Vs at h;have hl:=left_add hn hc;simp only [Bool.not_false,Bool.and_self,cond_true];rw [appC_ok (by decide) (by simp; omega),Option.bind_some,Option.bind_some];obtain⟨r,h1,h2,h3⟩:=next_loop d c U M hM l ⟨s.nl&&([x.FType.FName]:List Bs).isEmpty,s.l++[x.FType.FName]⟩ hx' (by unfold Vs; simp only [List.length_append,List.length_cons,List.length_nil]; omega);exact⟨r,h1,h2,by simp only [List.length_append,List.length_cons,List.length_nil] at h3; omega⟩
   ·exact next_loop d c U M hM l s hx' h
theorem find_in (d:TDoc) (n:Bs):(Z54_q d n).1∈d.FDefs.l\/(Z54_q d n).1.FInputs.l=[]:=by
 unfold Z54_q;simp only [Ab.on];have:∀l:List TDef,(match Z54_q6 n l with|Sum.inl _=>True|Sum.inr e=>e.1∈l):=by
  intro l;induction l with
  | nil=>exact trivial
  | cons a r ih =>
   rw [Z54_q6];simp only [Ab.on];cases hq:a.FName==n
   ·simp only [cond_false]
    revert ih
    cases Z54_q6 n r with
    | inl u=>intro _; exact trivial
    | inr e=>intro ih; exact .tail _ ih
   ·exact .head _
 have h:=this d.FDefs.l
 revert h
 cases Z54_q6 n d.FDefs.l with
 | inl u=>intro _; exact .inr rfl
 | inr e=>intro h; exact .inl h
theorem names_in {d:TDoc}{a:TDef}(h:a∈d.FDefs.l\/a.FInputs.l=[]):∀x∈a.FInputs.l,x.FType.FName∈docNames d:=by
 intro x hx;rcases h with h|h
 ·exact List.mem_flatMap.2 ⟨a,h,List.mem_map.2 ⟨x,hx,rfl⟩⟩
 ·rw [h] at hx; cases hx
theorem circ_loop (d:TDoc) (a:TDef) (hM:(docNames d).length<=1048576):∀(n i:Nat) (s:Sl Bs),Vs (docNames d) (docNames d).length s->i<=s.l.length->(docNames d).length+1<=n+i->∃b,Z62_l13 d a n s i=some b
 | 0,i,s,h,hi,hn=>by unfold Vs at h; omega
 | n+1,i,s,h,hi,hn=>by
  rw [Z62_l13];by_cases hlt:i<s.l.length
  ·rw [show decide (((i:Nat):Int)<((s.l.length:Nat):Int))=true from decide_eq_true (by omega),cond_true,List.getElem?_eq_getElem hlt,Option.bind_some,Z54_eq,Option.bind_some,Z71_eq];unfold Z71_q;obtain⟨r,h1,h2,h3⟩:=next_loop d a.FName (docNames d) (docNames d).length (by omega) _ s (names_in (find_in d s.l[i])) h;rw [h1,Option.bind_some];simp only [Ab.on,Option.bind_some];exact circ_loop d a hM n (i+1) r h2 (by omega) (by omega)
  ·rw [show decide (((i:Nat):Int)<((s.l.length:Nat):Int))=false from decide_eq_false (by omega),cond_false];unfold Z62_j8;rw [Z66_eq];exact⟨_,rfl⟩
theorem circular_ok {d:TDoc}(hd:d.sz<=1048576){a:TDef}(ha:a∈d.FDefs.l):∃b,Z62 d a=some b:=by
 have hM:=docNames_len d;unfold Z62;cases hk:(!decide (a.FKind=(5:Int)))
 ·rw [cond_false,Z71_eq];unfold Z71_q;have h0:Vs (docNames d) (docNames d).length Sl.nil:=by
   unfold Vs left;have:=List.length_filter_le (fun x=>!(Sl.nil:Sl Bs).l.contains x) (docNames d);simp only [Sl.nil,List.length_nil] at this ⊢; omega
  obtain⟨r,h1,h2,h3⟩:=next_loop d a.FName (docNames d) (docNames d).length (by omega) a.FInputs.l Sl.nil (names_in (.inl ha)) h0;rw [h1,Option.bind_some];simp only [Ab.on,Option.bind_some];exact circ_loop d a (by omega) F0 0 r h2 (by omega) (by rw [F0_eq]; omega)
 ·exact⟨false,rfl⟩
theorem j15_tl {s:Sl Z1}{b:Nat}(h:s.l.length<=b):Tl (Z72_j15 s) b:=⟨s,rfl,h⟩
theorem j13_tl {d:TDoc}(hd:d.sz<=1048576){a:TDef}(ha:a∈d.FDefs.l){s:Sl Z1}{b:Nat}(h:s.l.length<=b) (hb:b<=1000):Tl (Z72_j13 d a s) (b+1):=by
 unfold Z72_j13;obtain⟨v,hv⟩:=circular_ok hd ha;rw [hv,Option.bind_some];cases v
 ·exact(j15_tl h).mono (by omega)
 ·obtain⟨w,h1,h2⟩:=app24 (s:=s) (r:=⟨false,[Z1.mk (5:Int) a.FName]⟩) (by simp; omega);rw [cond_true,h1,Option.bind_some];exact j15_tl (by rw [h2]; simp; omega)
theorem j10_tl {d:TDoc}(hd:d.sz<=1048576){a:TDef}(ha:a∈d.FDefs.l){s:Sl Z1}{b:Nat}(h:s.l.length<=b) (hb:b<=900):Tl (Z72_j10 d a s) (b+2):=by
 unfold Z72_j10;generalize (((((((a.FName==([81,117,101,114,121]:Bs)))||((a.FName==([77,117,116,97,116,105,111,110]:Bs))))||((a.FName==([83,117,98,115,99,114,105,112,116,105,111,110]:Bs))))&&(!decide (a.FKind=(1:Int))))||(decide (a.FKind<(1:Int))))||(decide ((5:Int)<a.FKind)))=w;cases w
 ·exact(j13_tl hd ha h (by omega)).mono (by omega)
 ·obtain⟨w,h1,h2⟩:=app24 (s:=s) (r:=⟨false,[Z1.mk (9:Int) a.FName]⟩) (by simp; omega);rw [cond_true,h1,Option.bind_some];exact(j13_tl (b:=b+1) hd ha (by rw [h2]; simp; omega) (by omega)).mono (by omega)
theorem j6_tl {d:TDoc}(hd:d.sz<=1048576){a:TDef}(ha:a∈d.FDefs.l) (t:Bool):Tl (Z72_j6 d a t) 5:=by
 unfold Z72_j6;rw [Z70_eq];refine(names_tl _ _ _ _).bind fun r hr=>?_;rw [Z64_eq,Option.bind_some];cases Z64_q a
 ·exact(j10_tl hd ha hr (by omega)).mono (by omega)
 ·obtain⟨w,h1,h2⟩:=app24 (s:=r) (r:=⟨false,[Z1.mk (8:Int) a.FName]⟩) (by simp; omega);rw [cond_true,h1,Option.bind_some];exact j10_tl (b:=3) hd ha (by rw [h2]; simp; omega) (by omega)
theorem l30_tl {d:TDoc}(hd:d.sz<=1048576){a:TDef}(ha:a∈d.FDefs.l) (N:Nat) (hN:N<=d.FDefs.l.length) (hl:d.FDefs.l.length<=1048576):∀(n i:Nat) (t:Bool),i<=N->N-i<n->Tl (Z72_l30 d ((N:Nat):Int) a n t (i:Int)) 5
 | 0,_,_,_,h=>by omega
 | n+1,i,t,hi,hn=>by
  rw [Z72_l30];by_cases hlt:i<N
  ·have one:addC (i:Int) 1=some (((i+1:Nat)):Int):=by rw [addC_ok (by omega)]; rfl
   have hidx:idxC d.FDefs.l (i:Int)=some (d.FDefs.l[i]'(by omega)):=by
    unfold idxC; rw [if_pos (by omega),Int.toNat_natCast,List.getElem?_eq_getElem (show i<d.FDefs.l.length by omega)]
   rw [show decide ((i:Int)<((N:Nat):Int))=true from decide_eq_true (by omega),cond_true,one,hidx];cases t
   ·exact l30_tl hd ha N hN hl n (i+1) _ (by omega) (by omega)
   ·exact l30_tl hd ha N hN hl n (i+1) _ (by omega) (by omega)
  ·rw [show decide ((i:Int)<((N:Nat):Int))=false from decide_eq_false (by omega),cond_false];exact j6_tl hd ha t
theorem whole_tl {d:TDoc}(hd:d.sz<=1048576){i:Nat}(hi:i<d.FDefs.l.length):Tl (Z72_q d ((i:Nat):Int)) 5:=by
 have h1:=d.sz_def;have h2:=Sl.len_le (f:=TDef.sz) d.FDefs (fun x=>TDef.pos x);show Tl (Z72 d ((i:Nat):Int)) 5;unfold Z72;have hidx:idxC d.FDefs.l (i:Int)=some (d.FDefs.l[i]):=by
  unfold idxC; rw [if_pos (by omega),Int.toNat_natCast,List.getElem?_eq_getElem hi]
 rw [hidx,Option.bind_some,Z60_eq,Option.bind_some];exact l30_tl hd (List.getElem_mem hi) i (by omega) (by omega) F0 0 _ (by omega) (by rw [F0_eq]; omega)
theorem check_loop {d:TDoc}(hd:d.sz<=1048576):∀(l:List TDef) (i:Nat) (s:Sl Z1),d.FDefs.l.drop i=l->s.l.length+8*(l.map TDef.sz).sum<=900000000->Tl (Z50_q14 d l i s) (s.l.length+8*(l.map TDef.sz).sum)
 | [],i,s,_,_=>⟨s,rfl,by simp⟩
 | x::l,i,s,hl,hs=>by
  have hi:i<d.FDefs.l.length:=by
   have:=congrArg List.length hl;simp only [List.length_drop,List.length_cons] at this; omega
  have hx:x∈d.FDefs.l:=List.mem_of_mem_drop (i:=i) (by rw [hl]; exact .head _);have hd':d.FDefs.l.drop (i+1)=l:=by rw [<- List.drop_drop,hl]; rfl
  have h1:=Sl.mem_le (f:=TDef.sz) hx;have h2:=d.sz_def;have h3:=x.sz_def;have h4:=Bs.len_le x.FName;have h5:=Bs.sz_pos x.FName;have h6:=Sl.len_le (f:=Z4.sz) x.FInputs (fun x=>Z4.pos x);simp only [List.map_cons,List.sum_cons] at hs ⊢;rw [Z50_q14];simp only [Ab.on];refine Tl.appT (Nat.le_refl _) (whole_tl hd hi) (by omega) fun r hr=>?_;have rest:∀(o:Option (Sl Z1)),Tl o (s.l.length+5+3*x.sz)->Tl (o.bind fun v=>Z50_q14 d l (i+1) v) (s.l.length+8*(x.sz+(l.map TDef.sz).sum)):=by
   intro o ho;refine ho.bind fun v hv=>?_;exact(check_loop hd l (i+1) v hd' (by omega)).mono (by omega)
  have fin:∀{o:Option (Sl Z1)}{b:Nat},Tl o b->b<=3*x.sz->Tl (o.bind fun v=>(appC 24 r v).bind fun w=>some w) (s.l.length+5+3*x.sz):=by
   intro o b ho hb;exact Tl.appT hr ho (by omega) fun w hw=>⟨w,rfl,by omega⟩
  refine rest _ ?_;cases (bif decide (x.FKind=1) then decide (x.FKind=1) else decide (x.FKind=2))
  ·rw [cond_false];cases decide (x.FKind=4)
   ·rw [cond_false];cases decide (x.FKind=5)
    ·exact⟨r,rfl,by omega⟩
    ·rw [cond_true,catC_ok (by simp; omega),Option.bind_some];exact fin (inputs_tl d x.FInputs _ _ (by simp; omega) (by simp) (by omega)) (by omega)
   ·exact fin (members_tl x (by omega)) (by omega)
  ·exact fin (fields_tl d x (by omega)) (by omega)
theorem check_tl {d:TDoc}(hd:d.sz<=1048576) (b:Bool):Tl (Z50_q d b) 9000000:=by
 unfold Z50_q;have h2:=d.sz_def;have h3:Sl.sz TDef.sz d.FDefs=1+(d.FDefs.l.map TDef.sz).sum:=rfl;refine Tl.bind (a:=8*(d.FDefs.l.map TDef.sz).sum) ?_ fun r hr=>?_
 ·obtain⟨r,h4,h5⟩:=check_loop hd d.FDefs.l 0 Sl.nil rfl (by simp [Sl.nil]; omega);exact⟨r,h4,by simp [Sl.nil] at h5; omega⟩
 ·simp only [Ab.on];cases (b&&(!(Z54_q d ([81,117,101,114,121]:Bs)).2))
  ·exact⟨r,rfl,by omega⟩
  ·refine(Tl.add1 hr (by omega)).bind fun v hv=>⟨v,rfl,by omega⟩
end Go.Proofs

namespace Go.Proofs
open Go Go.Ab
theorem first_loop (d:TDoc) (N:Nat) (hN:N<d.FDefs.l.length) (hl:d.FDefs.l.length<=1048576):∀(n i:Nat),i<=N->N-i<n->∃b,Z79_l5 d ((N:Nat):Int) n (i:Int)=some b
 | 0,_,_,h=>by omega
 | n+1,i,hi,hn=>by
  rw [Z79_l5];by_cases hlt:i<N
  ·have one:addC (i:Int) 1=some (((i+1:Nat)):Int):=by rw [addC_ok (by omega)]; rfl
   have h1:idxC d.FDefs.l (i:Int)=some (d.FDefs.l[i]'(by omega)):=by
    unfold idxC; rw [if_pos (by omega),Int.toNat_natCast,List.getElem?_eq_getElem (show i<d.FDefs.l.length by omega)]
   have h2:idxC d.FDefs.l ((N:Nat):Int)=some (d.FDefs.l[N]):=by
    unfold idxC; rw [if_pos (by omega),Int.toNat_natCast,List.getElem?_eq_getElem hN]
   rw [show decide ((i:Int)<((N:Nat):Int))=true from decide_eq_true (by omega),cond_true,h1,h2,Option.bind_some,Option.bind_some,one];cases ((d.FDefs.l[i]'(by omega)).FName==(d.FDefs.l[N]).FName)
   ·exact first_loop d N hN hl n (i+1) (by omega) (by omega)
   ·exact⟨_,rfl⟩
  ·rw [show decide ((i:Int)<((N:Nat):Int))=false from decide_eq_false (by omega),cond_false];exact⟨_,rfl⟩
theorem first_ok {d:TDoc}(hl:d.FDefs.l.length<=1048576){i:Nat}(hi:i<d.FDefs.l.length):∃b,Z79_q d ((i:Nat):Int)=some b:=first_loop d i hi hl F0 0 (by omega) (by rw [F0_eq]; omega)
theorem possible_loop {d:TDoc}(hd:d.FDefs.l.length<=1048576) (n:Bs) (x:TDef×Bool):∀(l:List TDef) (i:Nat) (s:Sl Bs),d.FDefs.l.drop i=l->s.l.length+l.length<=4000000->Tl (Z76_q9 d n x l i s) (s.l.length+l.length)
 | [],i,s,_,_=>⟨s,rfl,by simp⟩
 | y::l,i,s,hl,hs=>by
  have hi:i<d.FDefs.l.length:=by
   have:=congrArg List.length hl;simp only [List.length_drop,List.length_cons] at this; omega
  have hd':d.FDefs.l.drop (i+1)=l:=by rw [<- List.drop_drop,hl]; rfl
  simp only [List.length_cons] at hs ⊢;rw [Z76_q9];cases x.2
  ·exact⟨s,rfl,by omega⟩
  ·rw [cond_true];simp only [Ab.on];have same:Tl (Z76_q9 d n x l (i+1) s) (s.l.length+(l.length+1)):=(possible_loop hd n x l (i+1) s hd' (by omega)).mono (by omega);have more:Tl (Option.bind ((appC 16 s (⟨false,[y.FName]⟩:Sl Bs)).bind fun x31=>some x31) fun v=>Z76_q9 d n x l (i+1) v) (s.l.length+(l.length+1)):=by
    rw [appC_ok (by decide) (by simp; omega),Option.bind_some,Option.bind_some];exact(possible_loop hd n x l (i+1) _ hd' (by simp; omega)).mono (by simp; omega)
   obtain⟨b,hb⟩:=first_ok hd hi;cases hk:decide (y.FKind=1)
   ·simp only [guardO,Bool.not_false,Bool.not_true,Bool.true_or,cond_true,Option.bind_some];exact same
   ·simp only [guardO,Bool.not_true,Bool.not_false,if_true,hb,Option.bind_some,Bool.false_or];cases b
    ·exact same
    ·simp only [Bool.not_true,cond_false];generalize ((((decide (x.1.FKind=(1:Int)))&&((y.FName==n)))||((decide (x.1.FKind=(2:Int)))&&_))||((decide (x.1.FKind=(3:Int)))&&_))=w;cases w
     ·exact same
     ·exact more
theorem possible_ok {d:TDoc}(hd:d.FDefs.l.length<=1048576) (n:Bs):Tl (Z76_q d n) d.FDefs.l.length:=by
 unfold Z76_q;simp only [Ab.on];obtain⟨r,h1,h2⟩:=possible_loop hd n (Z54_q d n) d.FDefs.l 0 Sl.nil rfl (by simp [Sl.nil]; omega);rw [h1];exact⟨r,rfl,by simpa [Sl.nil] using h2⟩
theorem is_ok {d:TDoc}(hd:d.FDefs.l.length<=1048576) (n m:Bs):∃b,Z74_q d n m=some b:=by
 unfold Z74_q;obtain⟨r,h1,-⟩:=possible_ok hd m;rw [h1]; exact⟨_,rfl⟩
theorem overlap_ok {d:TDoc}(hd:d.FDefs.l.length<=1048576) (n m:Bs):∃b,Z75_q d n m=some b:=by
 unfold Z75_q;obtain⟨r,h1,-⟩:=possible_ok hd n;rw [h1,Option.bind_some];have:∀l:List Bs,∃o,Z75_q7 d m l=some o:=by
  intro l;induction l with
  | nil=>exact⟨_,rfl⟩
  | cons a t ih =>
   rw [Z75_q7];simp only [Ab.on];obtain⟨b,hb⟩:=is_ok hd a m;rw [hb,Option.bind_some];cases b
   ·exact ih
   ·exact⟨_,rfl⟩
 obtain⟨o,ho⟩:=this r.l;rw [ho];cases o<;>exact⟨_,rfl⟩
theorem apart_ok {d:TDoc}(hd:d.FDefs.l.length<=1048576) (n m a:Bs):Tl (Z88_q d n m a) 1:=by
 unfold Z88_q;obtain⟨b,hb⟩:=overlap_ok hd n m;cases (n==([]:Bs))||(m==([]:Bs))
 ·simp only [guardO,Bool.not_false,if_true,hb,Option.bind_some,Bool.false_or];cases b
  ·exact⟨_,rfl,by simp⟩
  ·exact⟨_,rfl,by simp [Sl.nil]⟩
 ·exact⟨Sl.nil,rfl,by simp [Sl.nil]⟩
end Go.Proofs

namespace Go.Proofs
open Go Go.Ab
theorem key_len (x:TSel):(Z93_q x).length+(x.FSels.l.map TSel.sz).sum+3<=x.sz:=by
 have h:=x.sz_def;have h1:Bs.sz x.FAlias=x.FAlias.length+1:=rfl;have h2:Bs.sz x.FName=x.FName.length+1:=rfl;have h3:Sl.sz TSel.sz x.FSels=1+(x.FSels.l.map TSel.sz).sum:=rfl;unfold Z93_q;cases (!(x.FAlias==([]:Bs)))
 ·rw [cond_false]; omega
 ·rw [cond_true]; omega
theorem sub_sum (x:TSel):(x.FSels.l.map TSel.sz).sum+4<=x.sz:=by
 have h:=x.sz_def;have h1:=Bs.sz_pos x.FAlias;have h2:=Bs.sz_pos x.FName;have h3:Sl.sz TSel.sz x.FSels=1+(x.FSels.l.map TSel.sz).sum:=rfl;omega
theorem sels_tl {d:TDoc}(hd:d.FDefs.l.length<=1048576) (q:Z6):∀(n:Nat) (l:Sl TSel) (a b:Bs),(l.l.map TSel.sz).sum<n->(l.l.map TSel.sz).sum<=1048576->b.length+2*(l.l.map TSel.sz).sum<=100000000->Tl (Z95_qn n d q l a b) (2*(l.l.map TSel.sz).sum)
 | 0,_,_,_,h,_,_=>by omega
 | n+1,l,a,b,hn,hl,hb=>by
  have loop:∀(t:List TSel) (s:Sl Z1),(t.map TSel.sz).sum<=n->(t.map TSel.sz).sum<=1048576->b.length+2*(t.map TSel.sz).sum<=100000000->s.l.length+2*(t.map TSel.sz).sum<=100000000->Tl (Z95_q7 d q a b (Z95_qn n) t s) (s.l.length+2*(t.map TSel.sz).sum):=by
   intro t;induction t with
   | nil=>intro s _ _ _ _; exact⟨s,rfl,by simp⟩
   | cons x r ih =>
    intro s ht hl2 hb2 hs;simp only [List.map_cons,List.sum_cons] at ht hl2 hb2 hs ⊢;have hx:=sub_sum x;have hk:=key_len x;have rest:∀o:Option (Sl Z1),Tl o (s.l.length+2*x.sz)->Tl (o.bind fun v=>Z95_q7 d q a b (Z95_qn n) r v) (s.l.length+2*(x.sz+(r.map TSel.sz).sum)):=by
     intro o ho;refine ho.bind fun v hv=>?_;exact(ih v (by omega) (by omega) (by omega) (by omega)).mono (by omega)
    have sub:∀(a' b':Bs),b'.length<=b.length+1+(Z93_q x).length->Tl (Z95_qn n d q x.FSels a' b') (2*(x.FSels.l.map TSel.sz).sum):=fun a' b' h'=>sels_tl hd q n x.FSels a' b' (by omega) (by omega) (by omega);rw [Z95_q7];simp only [Ab.on];refine rest _ ?_;cases decide (x.FKind=2)
    ·rw [cond_false];cases decide (x.FKind=3)
     ·rw [cond_false,catC_ok (by simp; omega),Option.bind_some,catC_ok (by simp; omega),Option.bind_some];exact Tl.appT (Nat.le_refl _) (sub _ _ (by simp; omega)) (by omega) fun w hw=>⟨w,rfl,by omega⟩
     ·rw [cond_true];have fin:∀(v:Sl Z1) (c:Bs),v.l.length<=s.l.length+2->Tl ((Z95_qn n d q x.FSels c b).bind fun x35=>(appC 24 v x35).bind fun x36=>some x36) (s.l.length+2*x.sz):=by
       intro v c hv;exact Tl.appT hv (sub _ _ (by omega)) (by omega) fun w hw=>⟨w,rfl,by omega⟩
      cases (!(x.FOn==([]:Bs)))
      ·exact fin s a (by omega)
      ·rw [cond_true];have mid:∀(v:Sl Z1) (c:Bs),v.l.length<=s.l.length+1->Tl (Option.bind ((Z88_q d a c b).bind fun x43=>(appC 24 v x43).bind fun x44=>some (x44,c)) fun z32=>(Z95_qn n d q x.FSels z32.2 b).bind fun x35=>(appC 24 z32.1 x35).bind fun x36=>some x36) (s.l.length+2*x.sz):=by
        intro v c hv;obtain⟨w,h1,h2⟩:=apart_ok hd a c b;obtain⟨u,h3,h4⟩:=app24 (s:=v) (r:=w) (by omega);rw [h1,Option.bind_some,h3,Option.bind_some,Option.bind_some];exact fin u c (by omega)
       cases (Z94_q d x.FOn==([]:Bs))
       ·exact mid s _ (by omega)
       ·obtain⟨u,h3,h4⟩:=app24 (s:=s) (r:=⟨false,[Z1.mk (24:Int) b]⟩) (by simp; omega);rw [cond_true,h3,Option.bind_some,Option.bind_some];exact mid u _ (by rw [h4]; simp)
    ·rw [cond_true];cases (Z86_q q x.FName).2
     ·exact(Tl.add1 (Nat.le_refl _) (by omega)).mono (by omega)
     ·exact Tl.appT (Nat.le_refl _) (apart_ok hd _ _ _) (by omega) fun w hw=>⟨w,rfl,by omega⟩
  obtain⟨r,h1,h2⟩:=loop l.l Sl.nil (by omega) hl hb (by simp [Sl.nil]; omega);rw [Z95_qn,h1];exact⟨r,rfl,by simpa [Sl.nil] using h2⟩
end Go.Proofs

namespace Go.Proofs
open Go Go.Ab
def fndG (l:List Z3) (s:Bs):Z3×Bool:=match l.find? (fun t=>t.FName==s) with|some t=>(t,true)|none=>(Z3.zero,false)
theorem ffindAux (l:List Z3) (s:Bs):Z18_q7 s l=match l.find? (fun t=>t.FName==s) with|some t=>Sum.inr (t,true)|none=>Sum.inl ():=by
 induction l with
 | nil=>rfl
 | cons a r ih =>
  rw [Z18_q7,List.find?_cons];simp only [Ab.on,ih];cases a.FName==s<;>rfl
theorem ffind_eq (q:Z6) (s:Bs):Z18_q q s=fndG q.FFrags.l s:=by
 unfold Z18_q fndG;simp only [Ab.on];rw [ffindAux];cases q.FFrags.l.find? (fun t=>t.FName==s)<;>rfl
theorem rfindAux (l:List Z3) (s:Bs):Z86_q6 s l=Z18_q7 s l:=by
 induction l with
 | nil=>rfl
 | cons a r ih=>rw [Z86_q6,Z18_q7,ih]; rfl
theorem rfind_eq (q:Z6) (s:Bs):Z86_q q s=fndG q.FFrags.l s:=by
 rw [<- ffind_eq]; unfold Z86_q Z18_q; rw [rfindAux]; all_goals rfl
theorem fndG_name {l:List Z3}{s:Bs}(h:(fndG l s).2=true):(fndG l s).1.FName=s/\(fndG l s).1∈l:=by
 unfold fndG at *;cases e:l.find? (fun t=>t.FName==s) with
 | none=>rw [e] at h; cases h
 | some t=>exact⟨by simpa using List.find?_some e,List.mem_of_find?_eq_some e⟩
theorem fndG_none {l:List Z3}{s:Bs}(h:(fndG l s).2=false):(fndG l s).1=Z3.zero:=by
 unfold fndG at *;cases e:l.find? (fun t=>t.FName==s) with
 | none=>rfl
 | some t=>rw [e] at h; cases h
theorem indexAux (s:Bs) (l:List Bs):∀n:Nat,(l.contains s=false->Z121_q6 s l n=Sum.inl ())/\(l.contains s=true->∃m:Nat,Z121_q6 s l n=Sum.inr (m:Int)):=by
 induction l with
 | nil=>intro n; exact⟨fun _=>rfl,fun h=>by simp at h⟩
 | cons a r ih =>
  intro n;rw [Z121_q6];simp only [Ab.on,List.contains_cons];cases s==a
  ·simp only [Bool.false_or,cond_false]; exact ih (n+1)
  ·simp only [Bool.true_or,cond_true]; exact⟨fun h=>by simp at h,fun _=>⟨n,rfl⟩⟩
theorem contains_eq (a:Sl Bs) (s:Bs):Z116_q a s=a.l.contains s:=by
 unfold Z116_q Z121_q;simp only [Ab.on];have h:=indexAux s a.l 0;cases hc:a.l.contains s
 ·rw [h.1 hc]; rfl
 ·obtain⟨m,e⟩:=h.2 hc;rw [e]; exact decide_eq_true (by simp)
def unseen (fr:Sl Z3) (seen:List Bs):Nat:=(fr.l.filter fun f=>!seen.contains f.FName).length
theorem filter_le {α:Type}{p q:α->Bool}{l:List α}(h:∀x∈l,p x=true->q x=true):(l.filter p).length<=(l.filter q).length:=by
 induction l with
 | nil=>simp
 | cons a r ih =>
  have:=ih fun x hx=>h x (List.mem_cons_of_mem _ hx);have h1:=h a List.mem_cons_self;simp only [List.filter_cons];cases hp:p a<;>cases hq:q a<;>simp_all<;>omega
theorem filter_lt {α:Type}{p q:α->Bool}{l:List α}{y:α}(h:∀x∈l,p x=true->q x=true) (hy:y∈l) (h1:p y=false) (h2:q y=true):(l.filter p).length<(l.filter q).length:=by
 induction l with
 | nil=>cases hy
 | cons a r ih =>
  have h3:=filter_le (l:=r) (p:=p) (q:=q) fun x hx=>h x (List.mem_cons_of_mem _ hx);simp only [List.filter_cons];rcases List.mem_cons.1 hy with rfl|hy
  ·simp [h1,h2]; omega
  ·have:=ih (fun x hx=>h x (List.mem_cons_of_mem _ hx)) hy;have h4:=h a List.mem_cons_self;cases hp:p a<;>cases hq:q a<;>simp_all<;>omega
theorem unseen_le {fr:Sl Z3}{a b:List Bs}(h:∀s∈a,s∈b):unseen fr b<=unseen fr a:=filter_le fun x _ hp=>by
 simp at hp ⊢; exact fun h2=>hp (h _ h2)
theorem unseen_lt {fr:Sl Z3}{a b:List Bs}(h:∀s∈a,s∈b){f:Z3}(hf:f∈fr.l) (h1:f.FName∉a) (h2:f.FName∈b):unseen fr b<unseen fr a :=
 filter_lt (fun x _ hp=>by simp at hp ⊢; exact fun h2=>hp (h _ h2)) hf (by simpa using h2) (by simpa using h1)
theorem unseen_all (fr:Sl Z3) (seen:List Bs):unseen fr seen<=fr.l.length:=List.length_filter_le _ _
end Go.Proofs

namespace Go.Proofs
open Go Go.Ab
theorem sel_parts (s:TSel):(s.FArgs.l.map TArg.sz).sum+(s.FSels.l.map TSel.sz).sum+4<=s.sz:=by
 have h:=s.sz_def; have h1:=Bs.sz_pos s.FAlias; have h2:=Bs.sz_pos s.FName;have h3:(s.FArgs.l.map TArg.sz).sum+1=Sl.sz TArg.sz s.FArgs:=by unfold Sl.sz; omega
 have h4:(s.FSels.l.map TSel.sz).sum+1=Sl.sz TSel.sz s.FSels:=by unfold Sl.sz; omega
 omega
theorem hasAux (s:Bs) (l:List Bs):Z92_q5 s l=bif l.contains s then Sum.inr true else Sum.inl ():=by
 induction l with
 | nil=>rfl
 | cons a r ih =>
  rw [Z92_q5];simp only [Ab.on,ih,List.contains_cons];rw [show (s==a)=(a==s) from Bool.beq_comm];cases a==s<;>rfl
theorem has_eq (a:Sl Bs) (s:Bs):Z92_q a s=a.l.contains s:=by
 unfold Z92_q; simp only [Ab.on]; rw [hasAux]; cases a.l.contains s<;>rfl
theorem walk_loop (q:Z6) (k:Z6->Sl TSel->Sl Bs->Option (Sl Bs×Bool)):∀(l:List TSel) (s:Sl Bs) (b:Bool),Z21_q9 q k l s b=Z97_q8 q k l s b
 | [],_,_=>rfl
 | h::r,s,b=>by
  have ih:=walk_loop q k r;rw [Z21_q9,Z97_q8];simp only [Ab.on,ffind_eq,rfind_eq,contains_eq,has_eq,ih];cases decide (h.FKind=2)
  ·rfl
  ·simp only [cond_true];cases hf:(fndG q.FFrags.l h.FName).2
   ·simp
   ·rw [(fndG_name hf).1];simp
theorem walk_eq (q:Z6):∀n,Z21_qn n q=Z97_qn n q
 | 0=>rfl
 | n+1=>by
  funext l s
  rw [Z21_qn,Z97_qn];have hk:∀l s,Z21_qn n q l s=Z97_qn n q l s:=fun l s=>by rw [walk_eq q n]
  have key:∀(l:List TSel) (s:Sl Bs) (b:Bool),Z21_q9 q (Z21_qn n) l s b=Z21_q9 q (Z97_qn n) l s b:=by
   intro l;induction l with
   | nil=>intro s b; rfl
   | cons h r ih =>
    intro s b;rw [Z21_q9,Z21_q9];simp only [Ab.on,hk,ih]
  rw [key,walk_loop]
def Vis (q:Z6) (o:Option (Sl Bs×Bool)) (s:Sl Bs):Prop:=∃s' b,o=some (s',b)/\(∀x∈s.l,x∈s'.l)/\unseen q.FFrags s'.l+s'.l.length<=unseen q.FFrags s.l+s.l.length
theorem meas_le {a b T x y n:Nat}(h:a<=b) (hx:x<=y) (h2:b*(T+1)+y<=n):a*(T+1)+x<=n:=by
 have:a*(T+1)<=b*(T+1):=Nat.mul_le_mul_right _ h;omega
theorem meas_lt {a b T x y n:Nat}(h:a<b) (hx:x<=T) (h2:b*(T+1)+y<=n):a*(T+1)+x<n:=by
 have:(a+1)*(T+1)<=b*(T+1):=Nat.mul_le_mul_right _ h;rw [Nat.succ_mul] at this;omega
theorem visit_loop {q:Z6}{T n:Nat}(hT:∀f∈q.FFrags.l,(f.FSels.l.map TSel.sz).sum<=T)
  (ih:∀(l:Sl TSel) (s:Sl Bs),unseen q.FFrags s.l*(T+1)+(l.l.map TSel.sz).sum<n->(l.l.map TSel.sz).sum<=T->unseen q.FFrags s.l+s.l.length<=1048576->Vis q (Z97_qn n q l s) s) :
  ∀(l:List TSel) (s:Sl Bs) (b:Bool),unseen q.FFrags s.l*(T+1)+(l.map TSel.sz).sum<=n->(l.map TSel.sz).sum<=T->unseen q.FFrags s.l+s.l.length<=1048576->Vis q (Z97_q8 q (Z97_qn n) l s b) s
 | [],s,b,_,_,_=>⟨s,b,rfl,fun _ h=>h,Nat.le_refl _⟩
 | h::r,s,b,hn,hl,hb=>by
  simp only [List.map_cons,List.sum_cons] at hn hl;have hp:(h.FSels.l.map TSel.sz).sum+4<=h.sz:=by have:=sel_parts h; omega
  -- the rest,from what the selection has seen
  have rest:∀(o:Option (Sl Bs×Bool)),Vis q o s->Vis q (Option.bind o fun z16=>Z97_q8 q (Z97_qn n) r z16.1 z16.2) s:=fun o ho=>by
   obtain⟨s1,b1,e,hs,hu⟩:=ho;have hle:=unseen_le (fr:=q.FFrags) hs;obtain⟨s2,b2,e2,hs2,hu2⟩:=visit_loop hT ih r s1 b1 (meas_le hle (by omega) hn) (by omega) (by omega);exact⟨s2,b2,by rw [e,Option.bind_some]; exact e2,fun x hx=>hs2 x (hs x hx),by omega⟩
  rw [Z97_q8];simp only [Ab.on,rfind_eq,has_eq];refine rest _ ?_;cases decide (h.FKind=2)
  ·rw [cond_false];obtain⟨s1,b1,e,hs,hu⟩:=ih h.FSels s (by omega) (by omega) hb;exact⟨s1,b&&b1,by rw [e]; rfl,hs,hu⟩
  ·rw [cond_true];cases hf:(fndG q.FFrags.l h.FName).2
   ·exact⟨s,false,rfl,fun _ h=>h,Nat.le_refl _⟩
   ·obtain⟨hn1,hm⟩:=fndG_name hf;cases hc:s.l.contains (fndG q.FFrags.l h.FName).1.FName
    ·simp only [Bool.not_true,Bool.not_false,cond_true,cond_false,Bool.or_false];have hsub:∀x∈s.l,x∈s.l++[(fndG q.FFrags.l h.FName).1.FName]:=fun x hx=>by simp [hx]
     have hlt:=unseen_lt (fr:=q.FFrags) hsub hm (by simpa using hc) (by simp);rw [appC_ok (by decide) (by simp only [List.length_singleton]; omega),Option.bind_some];obtain⟨s1,b1,e,hs,hu⟩:=ih (fndG q.FFrags.l h.FName).1.FSels ⟨s.nl&&List.isEmpty [(fndG q.FFrags.l h.FName).1.FName],s.l++[(fndG q.FFrags.l h.FName).1.FName]⟩ (meas_lt hlt (hT _ hm) hn) (hT _ hm) (by simp only [List.length_append,List.length_singleton]; omega)
     refine⟨s1,b&&b1,by rw [e]; rfl,fun x hx=>hs x (hsub x hx), ?_⟩;simp only [List.length_append,List.length_singleton] at hu;omega
    ·simp only [Bool.not_true,Bool.not_false,cond_true,cond_false,Bool.false_or];exact⟨s,b,rfl,fun _ h=>h,Nat.le_refl _⟩
theorem visit_tot {q:Z6}{T:Nat}(hT:∀f∈q.FFrags.l,(f.FSels.l.map TSel.sz).sum<=T):∀(n:Nat) (l:Sl TSel) (s:Sl Bs),unseen q.FFrags s.l*(T+1)+(l.l.map TSel.sz).sum<n->(l.l.map TSel.sz).sum<=T->unseen q.FFrags s.l+s.l.length<=1048576->Vis q (Z97_qn n q l s) s
 | 0,_,_,h,_,_=>by omega
 | n+1,l,s,hn,hl,hb=>by
  obtain⟨s1,b1,e,hs,hu⟩:=visit_loop hT (visit_tot hT n) l.l s true (by omega) hl hb;exact⟨s1,b1,by rw [Z97_qn,e]; rfl,hs,hu⟩
def QOkV (q:Z6):Prop:=q.FFrags.l.length<=1048576/\∀f∈q.FFrags.l,(f.FSels.l.map TSel.sz).sum<=1048576
theorem visit_top {q:Z6}(hq:QOkV q) (l:Sl TSel) (hl:(l.l.map TSel.sz).sum<=1048576):∃s' b,Z97_q q l Sl.nil=some (s',b)/\s'.l.length<=1048576:=by
 have hu:=unseen_all q.FFrags [];have h1:=hq.1;have hm:unseen q.FFrags []*(1048576+1)<=1048576*(1048576+1):=Nat.mul_le_mul_right _ (by omega);obtain⟨s',b,e,_,h2⟩:=visit_tot hq.2 F0 l Sl.nil (by rw [F0_eq]; simp only [Sl.nil]; omega) hl (by simp only [Sl.nil,List.length_nil]; omega);refine⟨s',b,e, ?_⟩;simp only [Sl.nil,List.length_nil] at h2;omega
theorem fndG_sum {q:Z6}(hq:QOkV q) (s:Bs):((fndG q.FFrags.l s).1.FSels.l.map TSel.sz).sum<=1048576:=by
 cases h:(fndG q.FFrags.l s).2
 ·rw [fndG_none h]; decide
 ·exact hq.2 _ (fndG_name h).2
theorem circ_tot {q:Z6}(hq:QOkV q) (f:Z3) (hf:(f.FSels.l.map TSel.sz).sum<=1048576):∃b,Z89_q q f=some b/\Z20_q q f=some b:=by
 obtain⟨s,b,e,_⟩:=visit_top hq f.FSels hf;refine⟨s.l.contains f.FName, ?_, ?_⟩
 ·unfold Z89_q; rw [e]; simp only [Option.bind_some,Ab.on,has_eq]
 ·unfold Z20_q Z21_q;rw [walk_eq];unfold Z97_q at e;rw [e]; simp only [Option.bind_some,Ab.on,contains_eq]
end Go.Proofs

namespace Go.Proofs
open Go Go.Ab
theorem QOkV.of {q:Z6}(h:q.sz<=1048576):QOkV q/\(∀o∈q.FOps.l,o.sz<=1048576)/\(∀f∈q.FFrags.l,f.sz<=1048576)/\(q.FOps.l.map TOp.sz).sum+(q.FFrags.l.map Z3.sz).sum<=1048576:=by
 have h1:=q.sz_def;have h2:Sl.sz TOp.sz q.FOps=1+(q.FOps.l.map TOp.sz).sum:=rfl;have h3:Sl.sz Z3.sz q.FFrags=1+(q.FFrags.l.map Z3.sz).sum:=rfl;have h4:=Sl.len_le (f:=Z3.sz) q.FFrags (fun x=>Z3.pos x);refine⟨⟨by omega,fun f hf=>?_⟩,fun o ho=>?_,fun f hf=>?_,by omega⟩
 ·have h5:=Sl.mem_le (f:=Z3.sz) hf;have h6:=f.sz_def;have h7:Sl.sz TSel.sz f.FSels=1+(f.FSels.l.map TSel.sz).sum:=rfl;omega
 ·have h5:=Sl.mem_le (f:=TOp.sz) ho;omega
 ·have h5:=Sl.mem_le (f:=Z3.sz) hf;omega
theorem op_sels {o:TOp}:(o.FSels.l.map TSel.sz).sum+o.FName.length<=o.sz:=by
 have h6:=o.sz_def;have h7:Sl.sz TSel.sz o.FSels=1+(o.FSels.l.map TSel.sz).sum:=rfl;have h8:Bs.sz o.FName=o.FName.length+1:=rfl;omega
theorem frag_sels {o:Z3}:(o.FSels.l.map TSel.sz).sum+o.FName.length+2<=o.sz:=by
 have h6:=o.sz_def;have h7:Sl.sz TSel.sz o.FSels=1+(o.FSels.l.map TSel.sz).sum:=rfl;have h8:Bs.sz o.FName=o.FName.length+1:=rfl;omega
theorem used_ok {q:Z6}(hq:q.sz<=1048576) (n:Bs):∃b,Z96_q q n=some b:=by
 obtain⟨h1,h2,h3,h4⟩:=QOkV.of hq;have:∀l:List TOp,(∀o∈l,o.sz<=1048576)->∃o,Z96_q5 q n l=some o:=by
  intro l;induction l with
  | nil=>intro _; exact⟨_,rfl⟩
  | cons a r ih =>
   intro h;have ha:=h a (.head _);have hs:=@op_sels a;obtain⟨s,b,e,-⟩:=visit_top h1 a.FSels (by omega);rw [Z96_q5];simp only [Ab.on];rw [e,Option.bind_some];cases Z92_q s n
   ·exact ih fun o ho=>h o (.tail _ ho)
   ·exact⟨_,rfl⟩
 obtain⟨o,ho⟩:=this q.FOps.l h2;unfold Z96_q;rw [ho];cases o<;>exact⟨_,rfl⟩
theorem sels_top {d:TDoc}(hd:d.FDefs.l.length<=1048576) (q:Z6) (l:Sl TSel) (a b:Bs) (h:(l.l.map TSel.sz).sum<=1048576) (hb:b.length<=1048576):Tl (Z95_q d q l a b) (2*(l.l.map TSel.sz).sum) :=
 sels_tl hd q F0 l a b (by rw [F0_eq]; omega) h (by omega)
theorem check13_ops {d:TDoc}(hd:d.FDefs.l.length<=1048576) (q:Z6):∀(l:List TOp) (s:Sl Z1),(l.map TOp.sz).sum<=1048576->s.l.length+2*(l.map TOp.sz).sum<=100000000->Tl (Z85_q42 d q l s) (s.l.length+2*(l.map TOp.sz).sum)
 | [],s,_,_=>⟨s,rfl,by simp⟩
 | o::l,s,h,hs=>by
  simp only [List.map_cons,List.sum_cons] at h hs ⊢;have h1:=@op_sels o;rw [Z85_q42];simp only [Ab.on];refine Tl.appT (Nat.le_refl _) (sels_top hd q o.FSels _ _ (by omega) (by omega)) (by omega) fun w hw=>?_;exact(check13_ops hd q l w (by omega) (by omega)).mono (by omega)
theorem check13_frags {d:TDoc}(hd:d.FDefs.l.length<=1048576){q:Z6}(hq:q.sz<=1048576):∀(l:List Z3) (s:Sl Z1),(l.map Z3.sz).sum<=1048576->s.l.length+3*(l.map Z3.sz).sum<=100000000->Tl (Z85_q9 d q l s) (s.l.length+3*(l.map Z3.sz).sum)
 | [],s,_,_=>⟨s,rfl,by simp⟩
 | f::l,s,h,hs=>by
  simp only [List.map_cons,List.sum_cons] at h hs ⊢;have h1:=@frag_sels f;obtain⟨hQ,-⟩:=QOkV.of hq;have one:∀(z:Bool) (v:Sl Z1) (y:Z1) (m:Nat),v.l.length<=m->m<=1000000000->Tl (bif z then((appC 24 v (⟨false,[y]⟩:Sl Z1)).bind fun x=>some x) else some v) (m+1):=by
   intro z v y m hv hm;cases z
   ·exact⟨v,rfl,by omega⟩
   ·exact Tl.add1 hv hm
  rw [Z85_q9];simp only [Ab.on];refine(one _ s _ s.l.length (Nat.le_refl _) (by omega)).bind fun v1 hv1=>?_;obtain⟨c,hc,-⟩:=circ_tot hQ f (by omega);rw [hc,Option.bind_some];refine(one c v1 _ _ hv1 (by omega)).bind fun v2 hv2=>?_;obtain⟨u,hu⟩:=used_ok hq f.FName;rw [hu,Option.bind_some];refine(one (!u) v2 _ _ hv2 (by omega)).bind fun v3 hv3=>?_;refine Tl.appT hv3 (sels_top hd q f.FSels _ _ (by omega) (by omega)) (by omega) fun w hw=>?_
  exact(check13_frags hd hq l w (by omega) (by omega)).mono (by omega)
theorem check13_tl {d:TDoc}(hd:d.FDefs.l.length<=1048576){q:Z6}(hq:q.sz<=1048576):Tl (Z85_q d q) 10000000:=by
 obtain⟨-,-,-,h4⟩:=QOkV.of hq;unfold Z85_q;refine Tl.bind (a:=2*(q.FOps.l.map TOp.sz).sum) ?_ fun r hr=>?_
 ·obtain⟨r,h1,h2⟩:=check13_ops hd q q.FOps.l Sl.nil (by omega) (by simp [Sl.nil]; omega);exact⟨r,h1,by simpa [Sl.nil] using h2⟩
 ·simp only [Ab.on];obtain⟨w,h1,h2⟩:=check13_frags hd hq q.FFrags.l r (by omega) (by omega);rw [h1];exact⟨w,rfl,by omega⟩
end Go.Proofs

namespace Go.Proofs
open Go Go.Ab
theorem large_in:∀(l:List Z2) (s:Int),0<=s->s+((l.map Z2.sz).sum:Nat)<=1073741824->∃r,Z57_q36 l s=some r/\s<=r/\r<=s+((l.map Z2.sz).sum:Nat)/\∀f∈l,s+(f.FArgs.l.length:Nat)<=r
 | [],s,_,_=>⟨s,rfl,by omega,by simp,fun _ h=>by cases h⟩
 | f::l,s,h0,hb=>by
  simp only [List.map_cons,List.sum_cons] at hb ⊢;have h1:=f.sz_def;have h2:=Sl.len_le (f:=Z4.sz) f.FArgs (fun x=>Z4.pos x);have h3:=Sl.len_le (f:=TDir.sz) f.FDirs (fun x=>TDir.pos x);rw [Z57_q36];simp only [Ab.on];rw [addC_ok (by omega),Option.bind_some,addC_ok (by omega),Option.bind_some];obtain⟨r,e,a1,a2,a3⟩:=large_in l (s+(((f.FArgs.l.length:Nat):Int)+((f.FDirs.l.length:Nat):Int))) (by omega) (by omega)
  refine⟨r,e,by omega,by omega,fun g hg=>?_⟩;rcases List.mem_cons.1 hg with rfl|hg
  ·omega
  ·have:=a3 g hg; omega
def Sm (x:TDef):Prop:=x.FFields.l.length<=1000/\x.FMembers.l.length<=1000/\x.FImplements.l.length<=1000/\x.FInputs.l.length<=1000/\∀f∈x.FFields.l,f.FArgs.l.length<=1000
theorem large_out:∀(l:List TDef) (s:Int),0<=s->s+2*((l.map TDef.sz).sum:Nat)<=1073741824->∃r,Z57_q12 l s=some r/\s<=r/\(r<=1000->∀x∈l,Sm x)
 | [],s,_,_=>⟨s,rfl,by omega,fun _ _ h=>by cases h⟩
 | x::l,s,h0,hb=>by
  simp only [List.map_cons,List.sum_cons] at hb;have h1:=x.sz_def;have h2:=Sl.len_le (f:=Z2.sz) x.FFields (fun x=>Z2.pos x);have h3:=Sl.len_le (f:=Z5.sz) x.FMembers (fun x=>Z5.pos x);have h4:=Sl.len_le (f:=Z4.sz) x.FInputs (fun x=>Z4.pos x);have h5:=Sl.len_le (f:=TDir.sz) x.FDirs (fun x=>TDir.pos x);have h6:=Sl.len_le (f:=Bs.sz) x.FImplements (fun x=>Bs.sz_pos x);have h7:Sl.sz Z2.sz x.FFields=1+(x.FFields.l.map Z2.sz).sum:=rfl
  rw [Z57_q12];simp only [Ab.on];rw [addC_ok (by omega),Option.bind_some,addC_ok (by omega),Option.bind_some,addC_ok (by omega),Option.bind_some,addC_ok (by omega),Option.bind_some,addC_ok (by omega),Option.bind_some,addC_ok (by omega),Option.bind_some];obtain⟨z,e,a1,a2,a3⟩:=large_in x.FFields.l _ (show 0<=s+((((((1:Int)+((x.FFields.l.length:Nat):Int))+((x.FMembers.l.length:Nat):Int))+((x.FInputs.l.length:Nat):Int))+((x.FDirs.l.length:Nat):Int))+((x.FImplements.l.length:Nat):Int)) by omega) (by omega)
  rw [e,Option.bind_some];obtain⟨r,e2,b1,b2⟩:=large_out l z (by omega) (by omega);refine⟨r,e2,by omega,fun hr y hy=>?_⟩;rcases List.mem_cons.1 hy with rfl|hy
  ·exact⟨by omega,by omega,by omega,by omega,fun f hf=>by have:=a3 f hf; omega⟩
  ·exact b2 hr y hy
theorem large10 {d:TDoc}(hd:d.sz<=1048576):∃b,Z57_q d=some b/\(b=false->d.FDefs.l.length<=70/\∀x∈d.FDefs.l,Sm x):=by
 have h1:=d.sz_def;have h2:Sl.sz TDef.sz d.FDefs=1+(d.FDefs.l.map TDef.sz).sum:=rfl;unfold Z57_q;by_cases h:d.FDefs.l.length<=70
 ·rw [show decide ((70:Int)<((d.FDefs.l.length:Nat):Int))=false from decide_eq_false (by omega),cond_false];obtain⟨r,e,b1,b2⟩:=large_out d.FDefs.l 0 (by omega) (by omega);rw [e,Option.bind_some];simp only [Ab.on];exact⟨_,rfl,fun hb=>⟨h,b2 (by have:=of_decide_eq_false hb; omega)⟩⟩
 ·rw [show decide ((70:Int)<((d.FDefs.l.length:Nat):Int))=true from decide_eq_true (by omega)];exact⟨true,rfl,fun h=>by cases h⟩
theorem cut11 {t:TRef}(h:t.FWraps.l.length<=1048576) (h1:1<=t.FWraps.l.length):Z41_q t=some ⟨t.FName,⟨false,t.FWraps.l.drop 1⟩⟩:=by
 unfold Z41_q;rw [partC_tail h1,Option.bind_some,appC_ok (by decide) (by simp; omega)];simp
theorem nullable11 {t:TRef}(h:t.FWraps.l.length<=1048576):∃u,Z38_q t=some u/\u.FWraps.l.length<=t.FWraps.l.length/\(Z37_q t=true->u.FWraps.l.length<t.FWraps.l.length):=by
 unfold Z38_q;simp only [Ab.on];cases hn:Z37_q t
 ·rw [cond_false,appC_ok (by decide) (by simp; omega)];exact⟨_,rfl,by simp,fun h=>by cases h⟩
 ·have h1:1<=t.FWraps.l.length:=by
   unfold Z37_q at hn;cases hw:t.FWraps.l with
   | nil=>rw [hw] at hn; cases hn
   | cons a r=>simp
  rw [cond_true,cut11 h h1];exact⟨_,rfl,by simp,fun _=>by simp; omega⟩
theorem inner11 {t:TRef}(h:t.FWraps.l.length<=1048576):∃u b,Z35_q t=some (u,b)/\(b=true->u.FWraps.l.length<t.FWraps.l.length):=by
 obtain⟨u,h1,h2,-⟩:=nullable11 h;unfold Z35_q Z36_q;rw [h1,Option.bind_some];simp only [Ab.on,Option.bind_some];cases hl:(decide ((0:Int)<((u.FWraps.l.length:Nat):Int))&&decide ((bif decide ((0:Int)<((u.FWraps.l.length:Nat):Int)) then(u.FWraps.l[0]?).getD 0 else 0)=2))
 ·exact⟨_,false,rfl,fun h=>by cases h⟩
 ·simp only [Bool.and_eq_true,decide_eq_true_eq] at hl;rw [Bool.not_true,cond_false,cut11 (by omega) (by omega),Option.bind_some];exact⟨_,true,rfl,fun _=>by simp; omega⟩
theorem sub_ok {d:TDoc}(hd:d.FDefs.l.length<=1048576):∀(n:Nat) (a b:TRef),a.FWraps.l.length<n->a.FWraps.l.length<=1048576->b.FWraps.l.length<=1048576->∃v,Z77_qn n d a b=some v
 | 0,_,_,h,_,_=>by omega
 | n+1,a,b,hn,ha,hb=>by
  rw [Z77_qn];simp only [Ab.on];obtain⟨u,u1,u2,u3⟩:=nullable11 ha;obtain⟨w,w1,w2,w3⟩:=nullable11 hb;cases hbn:Z37_q b
  ·rw [cond_false];cases han:Z37_q a
   ·rw [cond_false];obtain⟨p,x,p1,p2⟩:=inner11 ha;obtain⟨q,y,q1,q2⟩:=inner11 hb;rw [p1,q1,Option.bind_some,Option.bind_some];obtain⟨z,hz⟩:=is_ok hd a.FName b.FName;cases x
    ·cases y
     ·simp only [Bool.false_and,cond_false,Bool.not_false,Bool.true_and,Bool.and_self];cases (a.FName==b.FName)
      ·simp only [guardO,Bool.not_false,if_true,hz,Option.bind_some]; exact⟨_,rfl⟩
      ·exact⟨_,rfl⟩
     ·exact⟨_,rfl⟩
    ·cases y
     ·exact⟨_,rfl⟩
     ·have hq:=q2 rfl;have hp:=p2 rfl;obtain⟨v,hv⟩:=sub_ok hd n p q (by omega) (by omega) (by omega);simp only [Bool.and_self,cond_true,hv,Option.bind_some];exact⟨_,rfl⟩
   ·rw [cond_true,u1,Option.bind_some];obtain⟨v,hv⟩:=sub_ok hd n u b (by have:=u3 han; omega) (by omega) hb;rw [hv]; exact⟨_,rfl⟩
  ·rw [cond_true];cases han:Z37_q a
   ·exact⟨_,rfl⟩
   ·obtain⟨v,hv⟩:=sub_ok hd n u w (by have:=u3 han; omega) (by omega) (by omega);simp only [guardO,if_true,u1,w1,hv,Option.bind_some];exact⟨_,rfl⟩
theorem same11_ok (a b:TRef):∃v,Z40_q a b=some v:=by
 have loop:∀(c:Sl Int) (l:List Int) (i:Nat),l.length+i<=c.l.length->∃o,Z42_q11 c l i=some o:=by
  intro c l;induction l with
  | nil=>intro i _; exact⟨_,rfl⟩
  | cons x r ih =>
   intro i h;simp only [List.length_cons] at h;rw [Z42_q11];simp only [Ab.on];rw [List.getElem?_eq_getElem (show i<c.l.length by omega),Option.bind_some];cases (!decide (x=c.l[i]'(by omega)))
   ·exact ih (i+1) (by omega)
   ·exact⟨_,rfl⟩
 have h2:∃v,Z42_q a.FWraps b.FWraps=some v:=by
  unfold Z42_q;by_cases h:a.FWraps.l.length=b.FWraps.l.length
  ·rw [show (!decide (((a.FWraps.l.length:Nat):Int)=((b.FWraps.l.length:Nat):Int)))=false by rw [decide_eq_true (show ((a.FWraps.l.length:Nat):Int)=((b.FWraps.l.length:Nat):Int) by omega)]; rfl,cond_false];obtain⟨o,ho⟩:=loop b.FWraps a.FWraps.l 0 (by omega);rw [ho];cases o<;>exact⟨_,rfl⟩
  ·rw [show (!decide (((a.FWraps.l.length:Nat):Int)=((b.FWraps.l.length:Nat):Int)))=true by rw [decide_eq_false (show ¬((a.FWraps.l.length:Nat):Int)=((b.FWraps.l.length:Nat):Int) by omega)]; rfl];exact⟨_,rfl⟩
 obtain⟨v,hv⟩:=h2;unfold Z40_q;cases (a.FName==b.FName)
 ·exact⟨_,rfl⟩
 ·simp only [guardO,if_true,hv]; exact⟨_,rfl⟩
end Go.Proofs

namespace Go.Proofs
open Go Go.Ab
theorem appG {s r:Sl Z1}{T:Nat}(hT:T<=1099511627776) (h:s.l.length+r.l.length<=T):∃v,appC 24 s r=some v/\v.l.length=s.l.length+r.l.length:=⟨_,appC_ok (by decide) (Nat.le_trans h hT),by simp⟩
theorem Tl.appG {s:Sl Z1}{o:Option (Sl Z1)}{b c T:Nat}{k:Sl Z1->Option (Sl Z1)}(hT:T<=1099511627776) (h:Tl o b) (hb:s.l.length+b<=T) (hk:∀r:Sl Z1,r.l.length<=s.l.length+b->Tl (k r) c):Tl (o.bind fun x=>(appC 24 s x).bind k) c:=by
 obtain⟨r,h1,h2⟩:=h;obtain⟨v,h3,h4⟩:=Go.Proofs.appG (s:=s) (r:=r) hT (by omega);rw [h1,Option.bind_some,h3,Option.bind_some];exact hk v (by omega)
theorem fieldof_in (a:TDef) (n:Bs):(Z53_q a n).1∈a.FFields.l\/((Z53_q a n).1.FArgs.l=[]/\(Z53_q a n).1.FType.FWraps.l=[]):=by
 unfold Z53_q;simp only [Ab.on];have:∀l:List Z2,(match Z53_q6 n l with|Sum.inl _=>True|Sum.inr e=>e.1∈l):=by
  intro l;induction l with
  | nil=>exact trivial
  | cons x r ih =>
   rw [Z53_q6];simp only [Ab.on];cases hq:x.FName==n
   ·simp only [cond_false]
    revert ih
    cases Z53_q6 n r with
    | inl u=>intro _; exact trivial
    | inr e=>intro ih; exact .tail _ ih
   ·exact .head _
 have h:=this a.FFields.l
 revert h
 cases Z53_q6 n a.FFields.l with
 | inl u=>intro _; exact .inr ⟨rfl,rfl⟩
 | inr e=>intro h; exact .inl h
theorem field_args {f:Z2}(h:f.sz<=1048576):(∀x∈f.FArgs.l,x.FName.length<=1048576)/\f.FName.length<=1048576/\f.FType.FWraps.l.length<=1048576:=by
 have h1:=f.sz_def;have h2:=Bs.len_le f.FName;have h3:=f.FType.sz_def;have h4:=Sl.len_le (f:=fun _:Int=>1) f.FType.FWraps (fun _=>Nat.le_refl _);refine⟨fun x hx=>?_,by omega,by omega⟩;have h5:=Sl.mem_le (f:=Z4.sz) hx;have h6:=x.sz_def;have h7:=Bs.len_le x.FName;omega
theorem f43_tl (p:Bs) (hp:p.length<=10000000) (x:Z2×Bool):∀(l:List Z4) (s:Sl Z1),(∀y∈l,y.FName.length<=1048576)->s.l.length+l.length<=1000000->Tl (Z78_q43 p x l s) (s.l.length+l.length)
 | [],s,_,_=>⟨s,rfl,by simp⟩
 | y::l,s,hy,hs=>by
  have hn:=hy y (.head _);simp only [List.length_cons] at hs ⊢;rw [Z78_q43];simp only [Ab.on];have ih:∀v:Sl Z1,v.l.length<=s.l.length+1->Tl (Z78_q43 p x l v) (s.l.length+(l.length+1)):=fun v hv=>(f43_tl p hp x l v (fun z hz=>hy z (.tail _ hz)) (by omega)).mono (by omega);have more:Tl (Option.bind ((catC p ([40]:Bs)).bind fun x59=>(catC x59 y.FName).bind fun x61=>(catC x61 ([41]:Bs)).bind fun x62=>(appC 24 s (⟨false,[(Z1.mk (22:Int) x62)]⟩:Sl Z1)).bind fun x63=>some x63) fun v=>Z78_q43 p x l v) (s.l.length+(l.length+1)):=by
   rw [catC_ok (by simp; omega),Option.bind_some,catC_ok (by simp; omega),Option.bind_some,catC_ok (by simp; omega),Option.bind_some];exact(Tl.add1 (Nat.le_refl _) (by omega)).bind fun v hv=>ih v hv
  cases (Z55_q x.1.FArgs y.FName).2
  ·simp only [guardO,Bool.not_false,Bool.not_true,Bool.true_or,cond_true];exact more
  ·obtain⟨b,hb⟩:=same11_ok (Z55_q x.1.FArgs y.FName).1.FType y.FType;simp only [guardO,Bool.not_true,Bool.not_false,if_true,cond_true,Bool.false_or,hb,Option.bind_some];cases b
   ·exact more
   ·exact ih s (by omega)
theorem f20_tl (a:Z2) (p:Bs) (hp:p.length<=10000000):∀(l:List Z4) (s:Sl Z1),(∀y∈l,y.FName.length<=1048576)->s.l.length+l.length<=1000000->Tl (Z78_q20 a p l s) (s.l.length+l.length)
 | [],s,_,_=>⟨s,rfl,by simp⟩
 | y::l,s,hy,hs=>by
  have hn:=hy y (.head _);simp only [List.length_cons] at hs ⊢;rw [Z78_q20];simp only [Ab.on];have ih:∀v:Sl Z1,v.l.length<=s.l.length+1->Tl (Z78_q20 a p l v) (s.l.length+(l.length+1)):=fun v hv=>(f20_tl a p hp l v (fun z hz=>hy z (.tail _ hz)) (by omega)).mono (by omega);have both:∀w:Bool,Tl (Option.bind (bif w then((catC p ([40]:Bs)).bind fun x59=>(catC x59 y.FName).bind fun x61=>(catC x61 ([41]:Bs)).bind fun x62=>(appC 24 s (⟨false,[(Z1.mk (22:Int) x62)]⟩:Sl Z1)).bind fun x63=>some x63) else some s) fun v=>Z78_q20 a p l v) (s.l.length+(l.length+1)):=by
   intro w;cases w
   ·exact ih s (by omega)
   ·rw [cond_true,catC_ok (by simp; omega),Option.bind_some,catC_ok (by simp; omega),Option.bind_some,catC_ok (by simp; omega),Option.bind_some];exact(Tl.add1 (Nat.le_refl _) (by omega)).bind fun v hv=>ih v hv
  exact both _
theorem field_tl {d:TDoc}(hd:d.FDefs.l.length<=1048576){a:TDef}(ha:a.sz<=1048576) (hs:Sm a){f:Z2}(hf:f.sz<=1048576) (hfa:f.FArgs.l.length<=1000):Tl (Z78_q d a f) 2001:=by
 obtain⟨g1,g2,g3⟩:=field_args hf;have h1:=a.sz_def;have h2:=Bs.len_le a.FName;have hx:(∀y∈(Z53_q a f.FName).1.FArgs.l,y.FName.length<=1048576)/\(Z53_q a f.FName).1.FArgs.l.length<=1000/\(Z53_q a f.FName).1.FType.FWraps.l.length<=1048576:=by
  rcases fieldof_in a f.FName with h|⟨h,h'⟩
  ·have h5:=Sl.mem_le (f:=Z2.sz) h;obtain⟨k1,k2,k3⟩:=field_args (f:=(Z53_q a f.FName).1) (by omega);exact⟨k1,hs.2.2.2.2 _ h,k3⟩
  ·rw [h,h']; exact⟨fun _ h=>(by cases h),by simp,by simp⟩
 unfold Z78_q;rw [catC_ok (by simp; omega),Option.bind_some,catC_ok (by simp; omega),Option.bind_some];simp only [Ab.on];cases (Z53_q a f.FName).2
 ·exact⟨_,rfl,by simp⟩
 ·obtain⟨v,hv⟩:=sub_ok hd F0 (Z53_q a f.FName).1.FType f.FType (by rw [F0_eq]; omega) hx.2.2 g3;rw [Bool.not_true,cond_false,show Z77_q d (Z53_q a f.FName).1.FType f.FType=some v from hv,Option.bind_some];have first:∀w:Bool,Tl (bif w then((appC 24 (Sl.nil:Sl Z1) (⟨false,[(Z1.mk (10:Int) (a.FName++[46]++f.FName))]⟩:Sl Z1)).bind fun x67=>some x67) else(some (Sl.nil:Sl Z1))) 1:=by
   intro w;cases w
   ·exact⟨Sl.nil,rfl,by simp [Sl.nil]⟩
   ·exact Tl.add1 (s:=Sl.nil) (b:=0) (Nat.le_refl _) (by omega)
  refine(first (!v)).bind fun r hr=>?_;refine Tl.bind (a:=1001) ((f43_tl _ (by simp; omega) _ f.FArgs.l r g1 (by omega)).mono (by omega)) fun r2 hr2=>?_;refine Tl.bind (a:=2001) ((f20_tl f _ (by simp; omega) _ r2 hx.1 (by have:=hx.2.1; omega)).mono (by have:=hx.2.1; omega)) fun r3 hr3=>?_;exact⟨r3,rfl,hr3⟩
theorem o30_tl {d:TDoc}(hd:d.FDefs.l.length<=1048576){a:TDef}(ha:a.sz<=1048576) (hs:Sm a){T:Nat}(hT:T<=1099511627776):∀(l:List Z2) (s:Sl Z1),(∀f∈l,f.sz<=1048576/\f.FArgs.l.length<=1000)->s.l.length+2001*l.length<=T->Tl (Z83_q30 d a l s) (s.l.length+2001*l.length)
 | [],s,_,_=>⟨s,rfl,by simp⟩
 | f::l,s,hf,h=>by
  simp only [List.length_cons] at h ⊢;obtain⟨f1,f2⟩:=hf f (.head _);rw [Z83_q30];simp only [Ab.on];refine Tl.appG hT (field_tl hd ha hs f1 f2) (Nat.le_trans (Nat.add_le_add_left (Nat.le_mul_of_pos_right 2001 (Nat.succ_pos l.length)) s.l.length) h) fun r hr=>?_;exact(o30_tl hd ha hs hT l r (fun z hz=>hf z (.tail _ hz)) (by omega)).mono (by omega)
def AllSm (d:TDoc):Prop:=∀x∈d.FDefs.l,x.sz<=1048576/\Sm x
theorem found_sm {d:TDoc}(h:AllSm d) (n:Bs):(∀f∈(Z54_q d n).1.FFields.l,f.sz<=1048576/\f.FArgs.l.length<=1000)/\(Z54_q d n).1.FFields.l.length<=1000:=by
 have key:(Z54_q d n).1∈d.FDefs.l\/(Z54_q d n).1.FFields.l=[]:=by
  unfold Z54_q;simp only [Ab.on];have:∀l:List TDef,(match Z54_q6 n l with|Sum.inl _=>True|Sum.inr e=>e.1∈l):=by
   intro l;induction l with
   | nil=>exact trivial
   | cons a r ih =>
    rw [Z54_q6];simp only [Ab.on];cases hq:a.FName==n
    ·simp only [cond_false]
     revert ih
     cases Z54_q6 n r with
     | inl u=>intro _; exact trivial
     | inr e=>intro ih; exact .tail _ ih
    ·exact .head _
  have h:=this d.FDefs.l
  revert h
  cases Z54_q6 n d.FDefs.l with
  | inl u=>intro _; exact .inr rfl
  | inr e=>intro h; exact .inl h
 rcases key with hk|hk
 ·obtain⟨h1,h2⟩:=h _ hk;refine⟨fun f hf=>⟨?_,h2.2.2.2.2 f hf⟩,h2.1⟩;have h3:=Sl.mem_le (f:=Z2.sz) hf;have h4:=(Z54_q d n).1.sz_def;omega
 ·rw [hk]; exact⟨fun _ h=>(by cases h),by simp⟩
theorem obj_tl {d:TDoc}(hd:d.FDefs.l.length<=1048576) (hA:AllSm d){a:TDef}(ha:a.sz<=1048576) (hs:Sm a){T:Nat}(hT:T<=1099511627776):∀(l:List Bs) (i:Nat) (s:Sl Z1),s.l.length+2001000*l.length<=T->Tl (Z83_q7 d a l i s) (s.l.length+2001000*l.length)
 | [],i,s,_=>⟨s,rfl,by simp⟩
 | n::l,i,s,h=>by
  simp only [List.length_cons] at h ⊢;rw [Z83_q7];simp only [Ab.on];have ih:∀v:Sl Z1,v.l.length<=s.l.length+2001000->Tl (Z83_q7 d a l (i+1) v) (s.l.length+2001000*(l.length+1)):=fun v hv=>(obj_tl hd hA ha hs hT l (i+1) v (by omega)).mono (by omega);obtain⟨k1,k2⟩:=found_sm hA n;have both:∀(w:Bool) (e:Int),Tl (Option.bind (bif w then((appC 24 s (⟨false,[(Z1.mk e a.FName)]⟩:Sl Z1)).bind fun x25=>some x25) else(Option.bind (Z83_q30 d a (Z54_q d n).1.FFields.l s) fun s5_31=>some s5_31)) fun v=>Z83_q7 d a l (i+1) v) (s.l.length+2001000*(l.length+1)):=by
   intro w e;cases w
   ·obtain⟨r,r1,r2⟩:=o30_tl hd ha hs hT _ s k1 (by omega);rw [cond_false,r1];exact ih r (by omega)
   ·obtain⟨v,v1,v2⟩:=appG (s:=s) (r:=⟨false,[Z1.mk e a.FName]⟩) hT (by simp; omega);rw [cond_true,v1];exact ih v (by rw [v2]; simp)
  exact both _ _
theorem uni_tl {d:TDoc}{a:TDef}(ha:a.FName.length<=1048576){T:Nat}(hT:T<=1099511627776):∀(l:List Z5) (i:Nat) (s:Sl Z1),(∀m∈l,m.FName.length<=1048576)->s.l.length+l.length<=T->Tl (Z84_q7 d a l i s) (s.l.length+l.length)
 | [],i,s,_,_=>⟨s,rfl,by simp⟩
 | m::l,i,s,hm,h=>by
  have hn:=hm m (.head _);simp only [List.length_cons] at h ⊢;rw [Z84_q7];simp only [Ab.on];have ih:∀v:Sl Z1,v.l.length<=s.l.length+1->Tl (Z84_q7 d a l (i+1) v) (s.l.length+(l.length+1)):=fun v hv=>(uni_tl ha hT l (i+1) v (fun z hz=>hm z (.tail _ hz)) (by omega)).mono (by omega);have both:∀(w:Bool) (e:Int),Tl (Option.bind (bif w then((catC a.FName ([46]:Bs)).bind fun x24=>(catC x24 m.FName).bind fun x25=>(appC 24 s (⟨false,[(Z1.mk e x25)]⟩:Sl Z1)).bind fun x26=>some x26) else(some s)) fun v=>Z84_q7 d a l (i+1) v) (s.l.length+(l.length+1)):=by
   intro w e;cases w
   ·exact ih s (by omega)
   ·rw [cond_true,catC_ok (by simp; omega),Option.bind_some,catC_ok (by simp; omega),Option.bind_some];obtain⟨v,v1,v2⟩:=appG (s:=s) (r:=⟨false,[Z1.mk e (a.FName++[46]++m.FName)]⟩) hT (by simp; omega);rw [v1];exact ih v (by rw [v2]; simp)
  exact both _ _
end Go.Proofs

namespace Go.Proofs
open Go Go.Ab
theorem object_tl {d:TDoc}(hd:d.FDefs.l.length<=1048576) (hA:AllSm d){a:TDef}(ha:a.sz<=1048576) (hs:Sm a):Tl (Z83_q d a) 2001000000:=by
 unfold Z83_q;have h1:2001000*a.FImplements.l.length<=2001000*1000:=Nat.mul_le_mul_left _ hs.2.2.1;obtain⟨r,e1,e2⟩:=obj_tl hd hA ha hs (T:=1099511627776) (Nat.le_refl _) a.FImplements.l 0 Sl.nil (by
  show 0+2001000*a.FImplements.l.length<=_;rw [Nat.zero_add];exact Nat.le_trans h1 (by decide))
 rw [e1];refine⟨r,rfl, ?_⟩;rw [show (Sl.nil:Sl Z1).l.length=0 from rfl,Nat.zero_add] at e2;exact Nat.le_trans e2 h1
theorem union_tl {d:TDoc}{a:TDef}(ha:a.sz<=1048576) (hs:Sm a):Tl (Z84_q d a) 2001000000:=by
 unfold Z84_q;have h1:=a.sz_def;have h2:=Bs.len_le a.FName;have h3:=hs.2.1;obtain⟨r,e1,e2⟩:=uni_tl (d:=d) (a:=a) (by omega) (T:=1000) (by decide) a.FMembers.l 0 Sl.nil (fun m hm=>by
  have h5:=Sl.mem_le (f:=Z5.sz) hm;have h6:=m.sz_def;have h7:=Bs.len_le m.FName;omega) (by simp only [Sl.nil,List.length_nil]; omega)
 rw [e1];refine⟨r,rfl, ?_⟩;simp only [Sl.nil,List.length_nil] at e2;omega
theorem faces_loop {d:TDoc}{C T:Nat}(hT:T<=1099511627776):∀(l:List TDef) (s:Sl Z1),(∀a∈l,Tl (Z83_q d a) C/\Tl (Z84_q d a) C)->s.l.length+C*l.length<=T->Tl (Z73_q7 d l s) (s.l.length+C*l.length)
 | [],s,_,_=>⟨s,rfl,by simp⟩
 | a::l,s,hC,h=>by
  obtain⟨c1,c2⟩:=hC a (.head _);rw [List.length_cons,Nat.mul_succ] at h;rw [List.length_cons,Nat.mul_succ];rw [Z73_q7];simp only [Ab.on];have hs:s.l.length+C<=T:=Nat.le_trans (by generalize C*l.length=m; omega) h;have ih:∀v:Sl Z1,v.l.length<=s.l.length+C->Tl (Z73_q7 d l v) (s.l.length+(C*l.length+C)):=fun v hv=>by
   refine(faces_loop hT l v (fun z hz=>hC z (.tail _ hz)) ?_).mono ?_
   ·clear hT; revert h; generalize C*l.length=m; intro h; omega
   ·clear hT; revert h; generalize C*l.length=m; intro h; omega
  have both:∀{o:Option (Sl Z1)},Tl o C->Tl (Option.bind (o.bind fun x21=>(appC 24 s x21).bind fun x22=>some x22) fun v=>Z73_q7 d l v) (s.l.length+(C*l.length+C)):=by
   intro o ho;refine Tl.bind (a:=s.l.length+C) (Tl.appG hT ho hs fun r hr=>⟨r,rfl,hr⟩) fun v hv=>ih v hv
  cases decide (a.FKind=1)
  ·cases decide (a.FKind=3)
   ·exact ih s (by omega)
   ·exact both c2
  ·exact both c1
theorem faces_tl {d:TDoc}(hd:d.sz<=1048576) (h:d.FDefs.l.length<=70/\∀x∈d.FDefs.l,Sm x):∃r,Z73_q d=some r:=by
 have hA:AllSm d:=fun x hx=>by
  have h1:=d.sz_def;have h5:=Sl.mem_le (f:=TDef.sz) hx;exact⟨by omega,h.2 x hx⟩
 have h70:2001000000*d.FDefs.l.length<=2001000000*70:=Nat.mul_le_mul_left _ h.1;obtain⟨r,e,-⟩:=faces_loop (d:=d) (C:=2001000000) (T:=1099511627776) (Nat.le_refl _) d.FDefs.l Sl.nil (fun a ha=>⟨object_tl (by omega) hA (hA a ha).1 (hA a ha).2,union_tl (hA a ha).1 (hA a ha).2⟩) (by
  show 0+2001000000*d.FDefs.l.length<=_;rw [Nat.zero_add];exact Nat.le_trans h70 (by decide))
 unfold Z73_q;rw [e];exact⟨r,rfl⟩
end Go.Proofs

namespace Go.Proofs
open Go Go.Ab
theorem sel_all (s:TSel):(s.FArgs.l.map TArg.sz).sum+(s.FDirs.l.map TDir.sz).sum+(s.FSels.l.map TSel.sz).sum+4<=s.sz:=by
 have h:=s.sz_def; have h1:=Bs.sz_pos s.FAlias; have h2:=Bs.sz_pos s.FName;have h3:(s.FArgs.l.map TArg.sz).sum+1=Sl.sz TArg.sz s.FArgs:=by unfold Sl.sz; omega
 have h5:(s.FDirs.l.map TDir.sz).sum+1=Sl.sz TDir.sz s.FDirs:=by unfold Sl.sz; omega
 have h4:(s.FSels.l.map TSel.sz).sum+1=Sl.sz TSel.sz s.FSels:=by unfold Sl.sz; omega
 omega
theorem deep_tot:∀(n:Nat) (l:Sl TSel) (a:Int),(l.l.map TSel.sz).sum<n->a<=1000->∃b,Z91_qn n l a=some b
 | 0,_,_,h,_=>by omega
 | n+1,l,a,h,ha=>by
  have loop:∀(t:List TSel),(t.map TSel.sz).sum<=n->∃b,Z91_q5 a (Z91_qn n) t=some b:=by
   intro t;induction t with
   | nil=>intro _; exact⟨_,rfl⟩
   | cons x r ih =>
    intro ht;simp only [List.map_cons,List.sum_cons] at ht;have hp:=sel_all x;obtain⟨b,hb⟩:=ih (by omega);rw [Z91_q5];simp only [Ab.on];by_cases h0:a<=0
    ·rw [show decide (a<=0)=true from decide_eq_true h0];exact⟨_,rfl⟩
    ·rw [show decide (a<=0)=false from decide_eq_false h0];obtain⟨c,hc⟩:=deep_tot n x.FSels (a-1) (by omega) (by omega);simp only [Bool.not_false,cond_true,guardO,if_true,Bool.false_or];rw [subC_ok (by omega),Option.bind_some,hc,Option.bind_some];cases c
     ·exact⟨b,hb⟩
     ·exact⟨_,rfl⟩
  obtain⟨b,hb⟩:=loop l.l (by omega);rw [Z91_qn,hb];cases b<;>exact⟨_,rfl⟩
theorem count_tot:∀(n:Nat) (l:Sl TSel) (a:Int),(l.l.map TSel.sz).sum<n->(l.l.map TSel.sz).sum<=1048576->a<=1000->∃b,Z90_qn n l a=some b/\0<=b/\b<=((l.l.map TSel.sz).sum:Nat)
 | 0,_,_,h,_,_=>by omega
 | n+1,l,a,h,hl,ha=>by
  have loop:∀(t:List TSel) (c:Int),(t.map TSel.sz).sum<=n->0<=c->c+((t.map TSel.sz).sum:Nat)<=1048576->∃b,Z90_q7 a (Z90_qn n) t c=some b/\0<=b/\b<=c+((t.map TSel.sz).sum:Nat):=by
   intro t;induction t with
   | nil=>intro c _ h0 _; exact⟨c,rfl,h0,by simp⟩
   | cons x r ih =>
    intro c ht h0 hc;simp only [List.map_cons,List.sum_cons] at ht hc ⊢;have hp:=sel_all x;have hla:x.FArgs.l.length<=(x.FArgs.l.map TArg.sz).sum:=by have:=Sl.len_lt (f:=TArg.sz) x.FArgs TArg.pos; unfold Sl.sz at this; omega
    have hld:x.FDirs.l.length<=(x.FDirs.l.map TDir.sz).sum:=by have:=Sl.len_lt (f:=TDir.sz) x.FDirs TDir.pos; unfold Sl.sz at this; omega
    rw [Z90_q7];simp only [Ab.on];by_cases hlt:c<a
    ·rw [show decide (c<a)=true from decide_eq_true hlt,cond_true];obtain⟨d,hd,hd0,hd1⟩:=count_tot n x.FSels (a-c) (by omega) (by omega) (by omega);rw [addC_ok (by omega),Option.bind_some,addC_ok (by omega),Option.bind_some,subC_ok (by omega),Option.bind_some,hd,Option.bind_some,addC_ok (by omega),Option.bind_some,addC_ok (by omega),Option.bind_some];obtain⟨b,hb,hb0,hb1⟩:=ih (c+(1+(x.FArgs.l.length:Int)+(x.FDirs.l.length:Int)+d)) (by omega) (by omega) (by omega)
     exact⟨b,hb,hb0,by omega⟩
    ·rw [show decide (c<a)=false from decide_eq_false hlt];exact⟨c,rfl,h0,by omega⟩
  obtain⟨b,hb,hb0,hb1⟩:=loop l.l 0 (by omega) (by omega) (by omega);rw [Z90_qn,hb];exact⟨b,rfl,hb0,by omega⟩
theorem deep_top (l:Sl TSel) (h:(l.l.map TSel.sz).sum<=1048576):∃b,Z91_q l 26=some b:=deep_tot F0 l 26 (by rw [F0_eq]; omega) (by omega)
theorem count_top (l:Sl TSel) (h:(l.l.map TSel.sz).sum<=1048576):∃b,Z90_q l 300=some b/\0<=b/\b<=1048576:=by
 obtain⟨b,h1,h2,h3⟩:=count_tot F0 l 300 (by rw [F0_eq]; omega) h (by omega);exact⟨b,h1,h2,by omega⟩
theorem large_ops:∀(l:List TOp) (c:Int),(∀x∈l,(x.FSels.l.map TSel.sz).sum<=1048576)->0<=c->c+l.length*1048576<=1125899906842624->∃b,Z87_q32 l c=some b/\∀d,b=Sum.inl d->0<=d/\d<=c+l.length*1048576
 | [],c,_,h0,_=>⟨_,rfl,fun d e=>by cases e; simp; omega⟩
 | x::r,c,hx,h0,hc=>by
  simp only [List.length_cons] at hc ⊢;obtain⟨b1,h1⟩:=deep_top x.FSels (hx x (by simp));obtain⟨b2,h2,h3,h4⟩:=count_top x.FSels (hx x (by simp));rw [Z87_q32];simp only [Ab.on,h1,Option.bind_some];cases hb:(b1||decide ((30:Int)<(((bif !b1 then x else TOp.zero).FVars.l.length:Nat):Int)))
  ·rw [cond_false,h2,Option.bind_some,addC_ok (by omega),Option.bind_some];obtain⟨b,h5,h6⟩:=large_ops r (c+b2) (fun y hy=>hx y (by simp [hy])) (by omega) (by omega);exact⟨b,h5,fun d e=>by have:=h6 d e; omega⟩
  ·exact⟨_,rfl,fun d e=>by cases e⟩
theorem large_frags:∀(l:List Z3) (c:Int),(∀x∈l,(x.FSels.l.map TSel.sz).sum<=1048576)->0<=c->c+l.length*1048576<=1125899906842624*2->∃b,Z87_q14 l c=some b
 | [],c,_,h0,_=>⟨_,rfl⟩
 | x::r,c,hx,h0,hc=>by
  simp only [List.length_cons] at hc;obtain⟨b1,h1⟩:=deep_top x.FSels (hx x (by simp));obtain⟨b2,h2,h3,h4⟩:=count_top x.FSels (hx x (by simp));rw [Z87_q14];simp only [Ab.on,h1,Option.bind_some];cases b1
  ·rw [cond_false,h2,Option.bind_some,addC_ok (by omega),Option.bind_some];exact large_frags r (c+b2) (fun y hy=>hx y (by simp [hy])) (by omega) (by omega)
  ·exact⟨_,rfl⟩
def QOk (q:Z6):Prop:=q.FFrags.l.length<=349526/\q.FOps.l.length<=1048576/\(∀f∈q.FFrags.l,(f.FSels.l.map TSel.sz).sum<=1048576)/\∀f∈q.FOps.l,(f.FSels.l.map TSel.sz).sum<=1048576
theorem three_len {α:Type}{f:α->Nat}:∀(l:List α),(∀x∈l,3<=f x)->3*l.length<=(l.map f).sum
 | [],_=>by simp
 | a::r,h=>by
  have h1:=h a (by simp);have h2:=three_len r fun x hx=>h x (by simp [hx]);simp only [List.length_cons,List.map_cons,List.sum_cons]; omega
theorem qOk {q:Z6}(h:q.sz<=1048576):QOk q:=by
 have h0:=q.sz_def;have h1:=Sl.len_lt (f:=TOp.sz) q.FOps TOp.pos;have h2:3*q.FFrags.l.length<=(q.FFrags.l.map Z3.sz).sum:=three_len _ fun x _=>by
  have:=x.sz_def; have:=Bs.sz_pos x.FName; have:=Bs.sz_pos x.FOn; have:=Sl.sz_pos TSel.sz x.FSels; omega
 have h3:(q.FFrags.l.map Z3.sz).sum+1=Sl.sz Z3.sz q.FFrags:=by unfold Sl.sz; omega
 refine⟨by omega,by omega,fun f hf=>?_,fun f hf=>?_⟩
 ·have h4:=Sl.mem_le (f:=Z3.sz) hf;have h5:=f.sz_def;have h6:(f.FSels.l.map TSel.sz).sum+1=Sl.sz TSel.sz f.FSels:=by unfold Sl.sz; omega
  omega
 ·have h4:=Sl.mem_le (f:=TOp.sz) hf;have h5:=f.sz_def;have h6:(f.FSels.l.map TSel.sz).sum+1=Sl.sz TSel.sz f.FSels:=by unfold Sl.sz; omega
  omega
theorem large_tot {q:Z6}(h:QOk q):∃b,Z87_q q=some b:=by
 obtain⟨h1,h2,h3,h4⟩:=h;unfold Z87_q;cases hc:(decide ((8:Int)<((q.FOps.l.length:Nat):Int))||decide ((12:Int)<((q.FFrags.l.length:Nat):Int)))
 ·simp only [Bool.or_eq_false_iff,decide_eq_false_iff_not] at hc;obtain⟨b,h5,h6⟩:=large_ops q.FOps.l 0 h4 (by omega) (by omega);rw [cond_false,h5,Option.bind_some];cases b with
  | inl d =>
   obtain⟨h7,h8⟩:=h6 d rfl;obtain⟨b,h9⟩:=large_frags q.FFrags.l d h3 h7 (by omega);simp only [Ab.on,h9,Option.bind_some];cases b<;>exact⟨_,rfl⟩
  | inr e=>exact⟨_,rfl⟩
 ·exact⟨_,rfl⟩
end Go.Proofs

namespace Go.Proofs
open Go Go.Ab
theorem Z39_loop (a:TRef) (ha:a.FWraps.l.length<=1048576) (l:List Int) (i:Nat) (h:i+l.length=a.FWraps.l.length):Ok (Z39_q10 a l i):=by
 induction l generalizing i with
 | nil=>exact Tot.some _
 | cons x r ih =>
  simp only [List.length_cons] at h;have hr:=ih (i+1) (by omega);rw [Z39_q10];simp only [on];refine Tot.cond (fun _=>Tot.some _) fun _=>?_;by_cases hi:0<i
  ·have h1:decide ((0:Int)<((i:Nat):Int))=true:=by simpa using hi
   obtain⟨v,hv⟩:=idxC_ok (l:=a.FWraps.l) (n:=(i:Int)-1) (by omega);simp only [h1,cond_true,Bool.true_and,subC_ok (a:=(i:Int)) (b:=1) (by omega)];cases decide (x=1)<;>simp only [guardO,hv,if_true,Option.bind_some,Bool.false_eq_true,if_false,Bool.false_and,cond_false]
   ·exact hr
   ·(repeat' (first|exact Tot.some _|assumption|(with_reducible refine Tot.bind ?_ fun _ _=>?_)|(with_reducible refine Tot.guard (fun _=>?_) fun _ _ _=>?_)|(with_reducible refine Tot.cond (fun _=>?_) fun _=>?_)|(with_reducible refine Tot.on fun _ _=>?_)|split))
  ·have h1:decide ((0:Int)<((i:Nat):Int))=false:=by simpa using hi
   simp only [h1,Bool.false_and,guardO,Bool.false_eq_true,if_false,cond_false];exact hr
theorem Z39_ok (a:TRef) (ha:a.FWraps.l.length<=1048576):Ok (Z39_q a):=by
 unfold Z39_q
 (repeat' (first|exact Tot.some _|assumption|(with_reducible refine Tot.bind ?_ fun _ _=>?_)|(with_reducible refine Tot.guard (fun _=>?_) fun _ _ _=>?_)|(with_reducible refine Tot.cond (fun _=>?_) fun _=>?_)|(with_reducible refine Tot.on fun _ _=>?_)|split))
 exact Z39_loop a ha _ _ (by simp)
theorem Z31_loop (k:Z7->Option Int) (l:List Z7) (s:Int) (hk:∀x∈l,∃r,k x=some r/\1<=r/\r<=x.sz) (hs:0<=s) (hb:s+((l.map Z7.sz).sum:Nat)<=1152921504606846976):∃r,Z31_q7 k l s=some r/\s<=r/\r<=s+((l.map Z7.sz).sum:Nat):=by
 induction l generalizing s with
 | nil=>exact⟨s,rfl,by simp,by simp⟩
 | cons x r ih =>
  obtain⟨v,h1,h2,h3⟩:=hk x List.mem_cons_self;simp only [List.map_cons,List.sum_cons] at hb ⊢;rw [Z31_q7];simp only [on,h1,Option.bind_some];rw [addC_ok (by omega)];simp only [Option.bind_some];obtain⟨w,h4,h5,h6⟩:=ih (s+v) (fun y hy=>hk y (List.mem_cons_of_mem _ hy)) (by omega) (by omega);exact⟨w,h4,by omega,by omega⟩
theorem Z7.item_lt {v x:Z7}(h:x∈v.FItems.l):x.sz<v.sz:=by
 have h1:=v.sz_def; have h2:=Sl.mem_le (f:=Z7.sz) h; omega
theorem Z7.items_sum (v:Z7):2+(v.FItems.l.map Z7.sz).sum<=v.sz:=by
 have h1:=v.sz_def; have h2:Sl.sz Z7.sz v.FItems=1+(v.FItems.l.map Z7.sz).sum:=rfl; omega
theorem Z31_tot (n:Nat):∀v:Z7,v.sz<n->v.sz<=1073741824->∃r,Z31_qn n v=some r/\1<=r/\r<=v.sz:=by
 induction n with
 | zero=>intro v h; omega
 | succ n ih =>
  intro v h hb;have h0:=v.items_sum;obtain⟨w,h4,h5,h6⟩:=Z31_loop (Z31_qn n) v.FItems.l 1 (fun x hx=>by have:=Z7.item_lt hx; exact ih x (by omega) (by omega)) (by omega) (by omega);rw [Z31_qn,h4];exact⟨w,rfl,by omega,by omega⟩
theorem Z31_ok (v:Z7) (h:v.sz<=1048576):∃r,Z31_q v=some r/\1<=r/\r<=v.sz:=Z31_tot F0 v (by rw [F0_eq]; omega) (by omega)
theorem Z29_loop (k:Z7->Option Int) (l:List Z7) (s b:Int) (hk:∀x∈l,∃r,k x=some r/\1<=r/\r<=b) (hs:0<=s/\s<=b):∃r,Z29_q8 k l s=some r/\0<=r/\r<=b:=by
 induction l generalizing s with
 | nil=>exact⟨s,rfl,by omega,by omega⟩
 | cons x r ih =>
  obtain⟨v,h1,h2,h3⟩:=hk x List.mem_cons_self;rw [Z29_q8];simp only [on,h1,Option.bind_some];exact ih _ (fun y hy=>hk y (List.mem_cons_of_mem _ hy)) (by split<;>omega)
theorem Z29_tot (n:Nat):∀v:Z7,v.sz<n->v.sz<=1073741824->∃r,Z29_qn n v=some r/\1<=r/\r<=v.sz:=by
 induction n with
 | zero=>intro v h; omega
 | succ n ih =>
  intro v h hb;have h0:=v.items_sum;obtain⟨w,h4,h5,h6⟩:=Z29_loop (Z29_qn n) v.FItems.l 0 (v.sz-1:Nat) (fun x hx=>by have:=Z7.item_lt hx; obtain⟨r,h7,h8,h9⟩:=ih x (by omega) (by omega); exact⟨r,h7,h8,by omega⟩) (by omega);rw [Z29_qn,h4];simp only [on,Option.bind_some];rw [addC_ok (by omega)];exact⟨w+1,rfl,by omega,by omega⟩
theorem Z29_ok (v:Z7) (h:v.sz<=1048576):Ok (Z29_q v):=by
 obtain⟨r,hr,_⟩:=Z29_tot F0 v (by rw [F0_eq]; omega) (by omega); exact⟨r,hr⟩
theorem Z33_in (a:Sl Bs) (x:Bs) (m i:Nat) (h:i+m<=a.l.length):Ok (Z33_q13 a x m i):=by
 induction m generalizing i with
 | zero=>exact Tot.some _
 | succ m ih =>
  rw [Z33_q13]
  (repeat' (first|exact Tot.some _|assumption|(with_reducible refine Tot.bind ?_ fun _ _=>?_)|(with_reducible refine Tot.guard (fun _=>?_) fun _ _ _=>?_)|(with_reducible refine Tot.cond (fun _=>?_) fun _=>?_)|(with_reducible refine Tot.on fun _ _=>?_)|split))
  ·exact get_ok (by omega)
  ·exact ih _ (by omega)
theorem Z33_out (a:Sl Bs) (l:List Bs) (i:Nat) (h:i+l.length=a.l.length):Ok (Z33_q5 a l i):=by
 induction l generalizing i with
 | nil=>exact Tot.some _
 | cons x r ih =>
  simp only [List.length_cons] at h;rw [Z33_q5]
  (repeat' (first|exact Tot.some _|assumption|(with_reducible refine Tot.bind ?_ fun _ _=>?_)|(with_reducible refine Tot.guard (fun _=>?_) fun _ _ _=>?_)|(with_reducible refine Tot.cond (fun _=>?_) fun _=>?_)|(with_reducible refine Tot.on fun _ _=>?_)|split))
  ·exact Z33_in a x _ _ (by omega)
  ·exact ih _ (by omega)
theorem Z33_ok (a:Sl Bs):Ok (Z33_q a):=by
 unfold Z33_q
 (repeat' (first|exact Tot.some _|assumption|(with_reducible refine Tot.bind ?_ fun _ _=>?_)|(with_reducible refine Tot.guard (fun _=>?_) fun _ _ _=>?_)|(with_reducible refine Tot.cond (fun _=>?_) fun _=>?_)|(with_reducible refine Tot.on fun _ _=>?_)|split))
 exact Z33_out a _ _ (by simp)
theorem Z32_ok (v:Z7) (b:Bool):Ok (Z32_q v b):=by
 unfold Z32_q
 (repeat' (first|exact Tot.some _|assumption|(with_reducible refine Tot.bind ?_ fun _ _=>?_)|(with_reducible refine Tot.guard (fun _=>?_) fun _ _ _=>?_)|(with_reducible refine Tot.cond (fun _=>?_) fun _=>?_)|(with_reducible refine Tot.on fun _ _=>?_)|split))
 exact Z33_ok _
theorem Z34_loop (b:Bool) (k:Z7->Bool->Option Bool) (l:List Z7) (hk:∀x∈l,Ok (k x b)):Ok (Z34_q11 b k l):=by
 induction l with
 | nil=>exact Tot.some _
 | cons x r ih =>
  rw [Z34_q11]
  (repeat' (first|exact Tot.some _|assumption|(with_reducible refine Tot.bind ?_ fun _ _=>?_)|(with_reducible refine Tot.guard (fun _=>?_) fun _ _ _=>?_)|(with_reducible refine Tot.cond (fun _=>?_) fun _=>?_)|(with_reducible refine Tot.on fun _ _=>?_)|split))
  ·rename_i h; rw [h]; exact hk x List.mem_cons_self
  ·exact ih fun y hy=>hk y (List.mem_cons_of_mem _ hy)
theorem Z34_tot (n:Nat):∀(v:Z7) (b:Bool),v.sz<n->Ok (Z34_qn n v b):=by
 induction n with
 | zero=>intro v b h; omega
 | succ n ih =>
  intro v b h;rw [Z34_qn]
  (repeat' (first|exact Tot.some _|assumption|(with_reducible refine Tot.bind ?_ fun _ _=>?_)|(with_reducible refine Tot.guard (fun _=>?_) fun _ _ _=>?_)|(with_reducible refine Tot.cond (fun _=>?_) fun _=>?_)|(with_reducible refine Tot.on fun _ _=>?_)|split))
  ·exact Z32_ok _ _
  ·exact Z34_loop b _ _ fun x hx=>ih x b (by have:=Z7.item_lt hx; omega)
theorem Z30_ok (v:Z7) (h:v.sz<=1048576):Ok (Z30_q v):=by
 unfold Z30_q;obtain⟨r,hr,_⟩:=Z31_ok v h
 (repeat' (first|exact Tot.some _|assumption|(with_reducible refine Tot.bind ?_ fun _ _=>?_)|(with_reducible refine Tot.guard (fun _=>?_) fun _ _ _=>?_)|(with_reducible refine Tot.cond (fun _=>?_) fun _=>?_)|(with_reducible refine Tot.on fun _ _=>?_)|split))
 ·exact⟨r,hr⟩
 ·exact Z29_ok v h
 ·exact Z34_tot F0 v true (by rw [F0_eq]; omega)
end Go.Proofs

namespace Go.Proofs
open Go Go.Ab
theorem TRef.wraps_le (r:TRef):r.FWraps.l.length<=r.sz:=by have:=r.sz_def; have:=Sl.len_le (f:=fun _:Int=>1) r.FWraps (fun _=>Nat.le_refl _); omega
theorem TArg.value_le (a:TArg):a.FValue.sz<=a.sz:=by have:=a.sz_def; omega
theorem Z45_loop (k:Z7->Option Bool) (l:List Z7) (hk:∀x∈l,Ok (k x)):Ok (Z45_q5 k l):=by
 induction l with
 | nil=>exact Tot.some _
 | cons x r ih =>
  rw [Z45_q5]
  (repeat' (first|exact Tot.some _|assumption|(with_reducible refine Tot.bind ?_ fun _ _=>?_)|(with_reducible refine Tot.guard (fun _=>?_) fun _ _ _=>?_)|(with_reducible refine Tot.cond (fun _=>?_) fun _=>?_)|(with_reducible refine Tot.on fun _ _=>?_)|split))
  ·rename_i h; rw [h]; exact hk x List.mem_cons_self
  ·exact ih fun y hy=>hk y (List.mem_cons_of_mem _ hy)
theorem Z45_tot (n:Nat):∀(v:Z7),v.sz<n->Ok (Z45_qn n v):=by
 induction n with
 | zero=>intro v h; omega
 | succ n ih =>
  intro v h;rw [Z45_qn]
  (repeat' (first|exact Tot.some _|assumption|(with_reducible refine Tot.bind ?_ fun _ _=>?_)|(with_reducible refine Tot.guard (fun _=>?_) fun _ _ _=>?_)|(with_reducible refine Tot.cond (fun _=>?_) fun _=>?_)|(with_reducible refine Tot.on fun _ _=>?_)|split))
  exact Z45_loop _ _ fun x hx=>ih x (by have:=Z7.item_lt hx; omega)
theorem Z45_ok (v:Z7) (h:v.sz<=1048576):Ok (Z45_q v):=Z45_tot F0 v (by rw [F0_eq]; omega)
theorem Z49_loop (l:List TVar) (h:∀a∈l,a.sz<=1048576):Ok (Z49_q6 l):=by
 induction l with
 | nil=>exact Tot.some _
 | cons x r ih =>
  have h1:=h x List.mem_cons_self; have h2:=x.sz_def; have h3:=x.FType.wraps_le;have hr:=ih fun y hy=>h y (List.mem_cons_of_mem _ hy);rw [Z49_q6]
  (repeat' (first|exact Tot.some _|assumption|(with_reducible refine Tot.bind ?_ fun _ _=>?_)|(with_reducible refine Tot.guard (fun _=>?_) fun _ _ _=>?_)|(with_reducible refine Tot.cond (fun _=>?_) fun _=>?_)|(with_reducible refine Tot.on fun _ _=>?_)|split))
  all_goals (subst_vars; first|exact Z39_ok _ (by omega)|exact Z30_ok _ (by omega)|exact Z45_ok _ (by omega))
theorem Z49_ok (s:Sl TVar) (h:Sl.sz TVar.sz s<=1048576):Ok (Z49_q s):=by
 unfold Z49_q
 (repeat' (first|exact Tot.some _|assumption|(with_reducible refine Tot.bind ?_ fun _ _=>?_)|(with_reducible refine Tot.guard (fun _=>?_) fun _ _ _=>?_)|(with_reducible refine Tot.cond (fun _=>?_) fun _=>?_)|(with_reducible refine Tot.on fun _ _=>?_)|split))
 exact Z49_loop _ fun a ha=>by have:=Sl.mem_le (f:=TVar.sz) ha; omega
theorem Z44_loop (l:List TArg) (h:∀a∈l,a.sz<=1048576):Ok (Z44_q6 l):=by
 induction l with
 | nil=>exact Tot.some _
 | cons x r ih =>
  have h1:=h x List.mem_cons_self; have h2:=x.value_le;have hr:=ih fun y hy=>h y (List.mem_cons_of_mem _ hy);obtain⟨b,e⟩:=Z30_ok x.FValue (by omega);rw [Z44_q6];simp only [on];cases Z25_q x.FName<;>simp only [guardO,e,Bool.not_true,Bool.not_false,cond_true,cond_false,Bool.or_false,Bool.or_true,Bool.true_or,Bool.false_or,if_true,Bool.false_eq_true,if_false,Option.bind_some]
  ·exact Tot.some _
  ·(repeat' (first|exact Tot.some _|assumption|(with_reducible refine Tot.bind ?_ fun _ _=>?_)|(with_reducible refine Tot.guard (fun _=>?_) fun _ _ _=>?_)|(with_reducible refine Tot.cond (fun _=>?_) fun _=>?_)|(with_reducible refine Tot.on fun _ _=>?_)|split))
theorem Z44_ok (s:Sl TArg) (h:Sl.sz TArg.sz s<=1048576):Ok (Z44_q s):=by
 unfold Z44_q
 (repeat' (first|exact Tot.some _|assumption|(with_reducible refine Tot.bind ?_ fun _ _=>?_)|(with_reducible refine Tot.guard (fun _=>?_) fun _ _ _=>?_)|(with_reducible refine Tot.cond (fun _=>?_) fun _=>?_)|(with_reducible refine Tot.on fun _ _=>?_)|split))
 exact Z44_loop _ fun a ha=>by have:=Sl.mem_le (f:=TArg.sz) ha; omega
theorem Z46_loop (l:List TDir) (h:∀a∈l,a.sz<=1048576):Ok (Z46_q6 l):=by
 induction l with
 | nil=>exact Tot.some _
 | cons x r ih =>
  have h1:=h x List.mem_cons_self; have h2:=x.sz_def;have hr:=ih fun y hy=>h y (List.mem_cons_of_mem _ hy);obtain⟨b,e⟩:=Z44_ok x.FArgs (by omega);rw [Z46_q6];simp only [on];cases Z25_q x.FName<;>simp only [guardO,e,Bool.not_true,Bool.not_false,cond_true,cond_false,Bool.or_false,Bool.or_true,Bool.true_or,Bool.false_or,if_true,Bool.false_eq_true,if_false,Option.bind_some]
  ·exact Tot.some _
  ·(repeat' (first|exact Tot.some _|assumption|(with_reducible refine Tot.bind ?_ fun _ _=>?_)|(with_reducible refine Tot.guard (fun _=>?_) fun _ _ _=>?_)|(with_reducible refine Tot.cond (fun _=>?_) fun _=>?_)|(with_reducible refine Tot.on fun _ _=>?_)|split))
theorem Z46_ok (s:Sl TDir) (h:Sl.sz TDir.sz s<=1048576):Ok (Z46_q s):=by
 unfold Z46_q
 (repeat' (first|exact Tot.some _|assumption|(with_reducible refine Tot.bind ?_ fun _ _=>?_)|(with_reducible refine Tot.guard (fun _=>?_) fun _ _ _=>?_)|(with_reducible refine Tot.cond (fun _=>?_) fun _=>?_)|(with_reducible refine Tot.on fun _ _=>?_)|split))
 exact Z46_loop _ fun a ha=>by have:=Sl.mem_le (f:=TDir.sz) ha; omega
theorem r08_sels_loop (i:Int) (k:TSel->Int->Option Bool) (l:List TSel) (hk:∀x∈l,Ok (k x i)):Ok (r08_selsRight_q10 i k l):=by
 induction l with
 | nil=>exact Tot.some _
 | cons x r ih =>
  have hr:=ih fun y hy=>hk y (List.mem_cons_of_mem _ hy);rw [r08_selsRight_q10]
  (repeat' (first|exact Tot.some _|assumption|(with_reducible refine Tot.bind ?_ fun _ _=>?_)|(with_reducible refine Tot.guard (fun _=>?_) fun _ _ _=>?_)|(with_reducible refine Tot.cond (fun _=>?_) fun _=>?_)|(with_reducible refine Tot.on fun _ _=>?_)|split))
  rename_i h; rw [h]; exact hk x List.mem_cons_self
theorem TSel.sub_lt (s:TSel):Sl.sz TSel.sz s.FSels<s.sz:=by
 have h1:=s.sz_def; have:=Bs.sz_pos s.FAlias; omega
theorem r08_sels_tot (n:Nat):(∀(s:Sl TSel) (i:Int),Sl.sz TSel.sz s<=1048576->2*Sl.sz TSel.sz s<n->0<=i->i<=25->Ok (r08_selsRight_qn n s i))/\(∀(s:TSel) (i:Int),s.sz<=1048576->2*s.sz<n->0<=i->i<=24->Ok (Z47_qn n s i)):=by
 induction n with
 | zero=>exact⟨fun s i _ h=>by omega,fun s i _ h=>by omega⟩
 | succ n ih =>
  refine⟨fun s i hs h h0 h1=>?_,fun s i hs h h0 h1=>?_⟩
  ·rw [r08_selsRight_qn];refine Tot.cond (fun _=>Tot.some _) fun hc=>?_;simp only [Bool.or_eq_false_iff,decide_eq_false_iff_not] at hc
   (repeat' (first|exact Tot.some _|assumption|(with_reducible refine Tot.bind ?_ fun _ _=>?_)|(with_reducible refine Tot.guard (fun _=>?_) fun _ _ _=>?_)|(with_reducible refine Tot.cond (fun _=>?_) fun _=>?_)|(with_reducible refine Tot.on fun _ _=>?_)|split))
   exact r08_sels_loop _ _ _ fun x hx=>ih.2 x i (by have:=Sl.mem_le (f:=TSel.sz) hx; omega) (by have:=Sl.mem_le (f:=TSel.sz) hx; omega) h0 (by omega)
  ·have h2:=s.sz_def;have h3:=s.sub_lt;obtain⟨b1,e1⟩:=Z46_ok s.FDirs (by omega);obtain⟨b2,e2⟩:=Z44_ok s.FArgs (by omega);obtain⟨b3,e3⟩:=ih.1 s.FSels (i+1) (by omega) (by omega) (by omega) (by omega);rw [Z47_qn]
   (repeat' (first|exact Tot.some _|assumption|(with_reducible refine Tot.bind ?_ fun _ _=>?_)|(with_reducible refine Tot.guard (fun _=>?_) fun _ _ _=>?_)|(with_reducible refine Tot.cond (fun _=>?_) fun _=>?_)|(with_reducible refine Tot.on fun _ _=>?_)|split))
   all_goals first
    | exact⟨_,e1⟩|exact⟨_,e2⟩|exact⟨_,e3⟩
    | (rw [addC_ok (by omega)]; exact Tot.some _)
    | (rename_i hg _ hv _; have h9:=hv hg; rw [addC_ok (by omega)] at h9; obtain rfl:=Option.some.inj h9; exact⟨_,e3⟩)
    | (rename_i hv; rw [addC_ok (by omega)] at hv; obtain rfl:=Option.some.inj hv; exact⟨_,e3⟩)
    | (rename_i hv _ hg; have h9:=hv hg; rw [addC_ok (by omega)] at h9; obtain rfl:=Option.some.inj h9; exact⟨_,e3⟩)
    | (rename_i hv _ _ hg; have h9:=hv hg; rw [addC_ok (by omega)] at h9; obtain rfl:=Option.some.inj h9; exact⟨_,e3⟩)
theorem r08_selsRight_ok (s:Sl TSel) (h:Sl.sz TSel.sz s<=1048576):Ok (r08_selsRight_q s 1):=(r08_sels_tot F0).1 s 1 h (by rw [F0_eq]; omega) (by omega) (by omega)
theorem Z43_ops (l:List TOp) (h:∀a∈l,a.sz<=1048576):Ok (Z43_q30 l):=by
 induction l with
 | nil=>exact Tot.some _
 | cons x r ih =>
  have h1:=h x List.mem_cons_self; have h2:=x.sz_def;have hr:=ih fun y hy=>h y (List.mem_cons_of_mem _ hy);rw [Z43_q30]
  (repeat' (first|exact Tot.some _|assumption|(with_reducible refine Tot.bind ?_ fun _ _=>?_)|(with_reducible refine Tot.guard (fun _=>?_) fun _ _ _=>?_)|(with_reducible refine Tot.cond (fun _=>?_) fun _=>?_)|(with_reducible refine Tot.on fun _ _=>?_)|split))
  all_goals (subst_vars; first|exact Z49_ok _ (by omega)|exact r08_selsRight_ok _ (by omega))
theorem Z43_frags (l:List Z3) (h:∀a∈l,a.sz<=1048576):Ok (Z43_q14 l):=by
 induction l with
 | nil=>exact Tot.some _
 | cons x r ih =>
  have h1:=h x List.mem_cons_self; have h2:=x.sz_def;have hr:=ih fun y hy=>h y (List.mem_cons_of_mem _ hy);rw [Z43_q14]
  (repeat' (first|exact Tot.some _|assumption|(with_reducible refine Tot.bind ?_ fun _ _=>?_)|(with_reducible refine Tot.guard (fun _=>?_) fun _ _ _=>?_)|(with_reducible refine Tot.cond (fun _=>?_) fun _=>?_)|(with_reducible refine Tot.on fun _ _=>?_)|split))
  all_goals (subst_vars; first|exact r08_selsRight_ok _ (by omega))
theorem Z6.op_le {d:Z6}{x:TOp}(h:x∈d.FOps.l):x.sz<=d.sz:=by have:=d.sz_def; have:=Sl.mem_le (f:=TOp.sz) h; omega
theorem Z6.frag_le {d:Z6}{x:Z3}(h:x∈d.FFrags.l):x.sz<=d.sz:=by have:=d.sz_def; have:=Sl.mem_le (f:=Z3.sz) h; omega
theorem Z6.lens (d:Z6):d.FOps.l.length<=d.sz/\d.FFrags.l.length<=d.sz:=by
 have h1:=d.sz_def; have h2:=Sl.len_lt (f:=TOp.sz) d.FOps TOp.pos; have h3:=Sl.len_lt (f:=Z3.sz) d.FFrags Z3.pos; omega
theorem Z43_ok (q:Z6) (h:q.sz<=1048576):Ok (Z43_q q):=by
 have hl:=q.lens;unfold Z43_q;rw [addC_ok (by omega)]
 (repeat' (first|exact Tot.some _|assumption|(with_reducible refine Tot.bind ?_ fun _ _=>?_)|(with_reducible refine Tot.guard (fun _=>?_) fun _ _ _=>?_)|(with_reducible refine Tot.cond (fun _=>?_) fun _=>?_)|(with_reducible refine Tot.on fun _ _=>?_)|split))
 ·exact Z43_ops _ fun a ha=>by have:=Z6.op_le ha; omega
 ·exact Z43_frags _ fun a ha=>by have:=Z6.frag_le ha; omega
end Go.Proofs

namespace Go.Proofs
open Go Go.Ab
theorem fits16_ok {d:TDoc}{q:Z6}(hd:d.sz<=1048576) (hq:q.sz<=1048576):∃b,Z24 d q=some b:=by
 rw [Z24_eq];unfold Z24_q;have hl:d.FDefs.l.length<=1048576:=by
  have h1:=d.sz_def;have h2:=Sl.len_le (f:=TDef.sz) d.FDefs (fun x=>TDef.pos x);omega
 obtain⟨L,hL,hL2⟩:=large10 hd;rw [hL,Option.bind_some];cases L
 ·show Ok _;refine Tot.guard (fun _=>large_tot (qOk hq)) fun x4 _ _=>?_;refine Tot.guard (fun _=>Z43_ok q hq) fun x5 _ _=>?_;refine Tot.guard (fun _=>?_) fun x6 _ _=>?_
  ·obtain⟨r,h,-⟩:=check_tl hd false; exact⟨r,h⟩
  refine Tot.guard (fun _=>faces_tl hd (hL2 rfl)) fun x7 _ _=>?_;refine Tot.guard (fun _=>?_) fun x8 _ _=>?_
  ·obtain⟨r,h,-⟩:=check13_tl hl hq; exact⟨r,h⟩
  exact Tot.some _
 ·exact⟨_,rfl⟩
end Go.Proofs

namespace Go.Proofs
open Go Go.Ab
def bB:Nat:=549755813888
def Wv:Nat->Z7->Prop
 | 0,_=>False
 | n+1,v=>(-9223372036854775808<=v.FInt/\v.FInt<=9223372036854775807)/\(v.FKeys.nl=true->v.FKeys.l=[])/\v.FKeys.l.length<=bB/\v.FItems.l.length<=bB/\∀x∈v.FItems.l,Wv n x
theorem Wv.mono:∀{n m:Nat}{v:Z7},n<=m->Wv n v->Wv m v
 | 0,_,_,_,h=>h.elim
 | n+1,0,_,hn,_=>by omega
 | n+1,m+1,v,hn,⟨a,b,c,d,e⟩=>⟨a,b,c,d,fun x hx=>Wv.mono (by omega) (e x hx)⟩
theorem appC80 {α:Type}{s r:Sl α}(h:s.l.length+r.l.length<=1099511627776):appC 80 s r=some ⟨s.nl&&r.l.isEmpty,s.l++r.l⟩:=by
 unfold appC; rw [if_pos];have:(s.l.length+r.l.length)*80<=1099511627776*80:=Nat.mul_le_mul_right _ h;unfold maxN; omega
theorem cloneS_eq {s:Sl Bs}(h:s.nl=true->s.l=[]) (hl:s.l.length<=bB):∃r,Z113_q s=some r/\r.l=s.l/\(r.nl=true->r.l=[]):=by
 unfold Z113_q;unfold bB at hl;cases hn:s.nl with
 | true=>exact⟨Sl.nil,rfl,(h hn).symm,fun _=>rfl⟩
 | false=>rw [cond_false,appC_ok32 (by omega) (by simp; omega)]; exact⟨_,rfl,by simp,fun e=>by simp at e⟩
theorem copy_tot:∀(n:Nat){v:Z7},Wv n v->∀m,2*n<=m->∃r,value_Copy_qn m v=some r/\Wv n r/\r.FKind=v.FKind
 | 0,_,h,_,_=>h.elim
 | n+1,v,⟨h2,h5,h6,h7,h9⟩,m,hm=>by
  obtain⟨m1,rfl⟩:∃m1,m=m1+1+1:=⟨m-2,by omega⟩;have hl:∀(l:List Z7) (s:Sl Z7),(∀x∈l,Wv n x)->(∀x∈s.l,Wv n x)->s.l.length+l.length<=bB->∃s':Sl Z7,Z138_q8 (value_Copy_qn m1) l s=some s'/\(∀x∈s'.l,Wv n x)/\s'.l.length=s.l.length+l.length:=by
   intro l;induction l with
   | nil=>intro s _ hs _; exact⟨s,rfl,hs,rfl⟩
   | cons a t ih =>
    intro s hl hs hb;obtain⟨r,hr,hr',-⟩:=copy_tot n (hl a (.head _)) m1 (by omega);rw [Z138_q8];simp only [Ab.on,hr,Option.bind_some];simp only [List.length_cons] at hb;rw [appC80 (by unfold bB at hb; simp; omega),Option.bind_some];obtain⟨s',e1,e2,e3⟩:=ih ⟨s.nl&&[r].isEmpty,s.l++[r]⟩ (fun x hx=>hl x (.tail _ hx)) (fun x hx=>by
     rcases List.mem_append.1 hx with hx|hx
     ·exact hs x hx
     ·rw [List.mem_singleton.1 hx]; exact hr') (by simp; omega)
    exact⟨s',e1,e2,by rw [e3]; simp; omega⟩
  obtain⟨s',e1,e2,e0⟩:=hl v.FItems.l Sl.nil h9 (fun _ h=>by cases h) (by simpa [Sl.nil] using h7);obtain⟨k,e3,e4,e5⟩:=cloneS_eq h5 h6;rw [value_Copy_qn,Z138_qn,e1,Option.bind_some];simp only [Ab.on,Option.bind_some,e3];refine⟨_,rfl,⟨h2,e5, ?_, ?_,e2⟩,rfl⟩
  ·show k.l.length<=_; rw [e4]; exact h6
  ·show s'.l.length<=_; rw [e0]; simpa [Sl.nil] using h7
theorem copy_ok {n:Nat}(hn:n<=1073741824){v:Z7}(h:Wv n v):∃r,value_Copy_q v=some r/\Wv n r/\r.FKind=v.FKind:=copy_tot n h F0 (by rw [F0_eq]; omega)
theorem Wv.of:∀(n:Nat) (v:Z7),v.sz<=n->v.sz<=1048576->v.wf->Wv n v
 | 0,v,h,_,_=>by have:=Z7.pos v; omega
 | n+1,v,h,h2,hw=>by
  have h1:=v.sz_def;have h3:=Sl.len_le (f:=Z7.sz) v.FItems (fun x=>Z7.pos x);have h4:=Sl.len_le (f:=Bs.sz) v.FKeys (fun x=>Bs.sz_pos x);refine⟨?_, ?_, ?_, ?_,fun x hx=>?_⟩
  ·have:=Z7.FInt_wf hw; unfold i64 at this; omega
  ·exact(Z7.FKeys_wf hw).1
  ·unfold bB; omega
  ·unfold bB; omega
  ·have h5:=Sl.mem_le (f:=Z7.sz) hx;exact Wv.of n x (by omega) (by omega) ((Z7.FItems_wf hw).2.2 x hx)
end Go.Proofs

namespace Go.Proofs
open Go Go.Ab
def zvT:Z7:=Z7.mk (0:Int) (0:Int) ([]:Bs) true ([]) (Sl.nil:Sl Bs)
theorem zvT_w:Wv 1 zvT:=⟨⟨by decide,by decide⟩,fun _=>rfl,by show 0<=_; omega,by show 0<=_; omega,fun _ h=>by cases h⟩
theorem get_tot {n:Nat}{v:Z7}(h:Wv (n+1) v) (hn:n<=1073741824) (s:Bs):∃x b,Z136_q v s=some (x,b)/\((b=true/\Wv n x)\/(b=false/\x=zvT)):=by
 unfold Z136_q;simp only [Ab.on];generalize Z121_q v.FKeys s=i;cases hc:(((!decide (v.FKind=(6:Int)))||(decide (i<(0:Int))))||(decide (((v.FItems.l.length:Nat):Int)<=i)))
 ·simp only [Bool.or_eq_false_iff,decide_eq_false_iff_not] at hc;obtain⟨⟨-,h0⟩,h1⟩:=hc;have hi:i.toNat<v.FItems.l.length:=by omega
  have hidx:idxC v.FItems.l i=some (v.FItems.l[i.toNat]):=by
   unfold idxC; rw [if_pos (by omega),List.getElem?_eq_getElem hi]
  obtain⟨r,h2,h3,-⟩:=copy_ok hn (h.2.2.2.2 _ (List.getElem_mem hi));rw [cond_false,hidx,Option.bind_some,h2];exact⟨r,true,rfl,.inl ⟨rfl,h3⟩⟩
 ·exact⟨zvT,false,rfl,.inr ⟨rfl,rfl⟩⟩
theorem missing_tot {n:Nat}{c:Z0}(h:Wv (n+1) c.Fvars) (hn:n<=1073741824) (v:Z7):∃b,Z13_q c v=some b:=by
 unfold Z13_q;cases ((!decide (v.FKind=(7:Int)))||(!c.Fliteral))
 ·obtain⟨x,b,e,-⟩:=get_tot h hn v.FText;rw [cond_false,e]; exact⟨_,rfl⟩
 ·exact⟨_,rfl⟩
def Cq (c c':Z0) (e:Int):Prop:=c'.Fd=c.Fd/\c'.Fvars=c.Fvars/\c'.Fliteral=c.Fliteral/\0<=c'.Fnodes/\(e=0->c'.Fnodes<=4096)
def Cs (c:Z0):Prop:=0<=c.Fnodes/\c.Fnodes<=4096
theorem Cq.trans {a b c:Z0}{e e':Int}(h:Cq a b e) (h':Cq b c e'):Cq a c e':=⟨h'.1.trans h.1,h'.2.1.trans h.2.1,h'.2.2.1.trans h.2.2.1,h'.2.2.2.1,h'.2.2.2.2⟩
theorem count_tot12 {c:Z0}(h:Cs c) (l:Int):∃e c',Z10_q c l=some (e,c')/\Cq c c' e/\(e=0->l<=24):=by
 unfold Z10_q;unfold Cs at h;by_cases hl:24<l
 ·rw [decide_eq_true hl];exact⟨5,c,rfl,⟨rfl,rfl,rfl,h.1,fun h=>by cases h⟩,fun h=>by cases h⟩
 ·rw [decide_eq_false hl,cond_false,addC_ok (by omega),Option.bind_some];by_cases h4:4096<c.Fnodes+1
  ·rw [decide_eq_true h4];exact⟨4,_,rfl,⟨rfl,rfl,rfl,by show 0<=c.Fnodes+1; omega,fun h=>by cases h⟩,fun h=>by cases h⟩
  ·rw [decide_eq_false h4];exact⟨0,_,rfl,⟨rfl,rfl,rfl,by show 0<=c.Fnodes+1; omega,fun _=>by show c.Fnodes+1<=4096; omega⟩,fun _=>by omega⟩
theorem whole_tot:∀(n:Nat) (c:Z0) (v:Z7) (l:Int),Cs c -> -1000<=l->(25-l)<(n:Int)->0<n->∃e c',Z16_qn n c v l=some (e,c')/\Cq c c' e
 | 0,_,_,_,_,_,_,h=>by omega
 | n+1,c,v,l,hc,h0,hn,_=>by
  obtain⟨e,c1,h1,h2,h3⟩:=count_tot12 hc l;rw [Z16_qn,h1,Option.bind_some];by_cases he:e=0
  ·have hl:=h3 he;rw [decide_eq_true he,Bool.not_true,cond_false];have loop:∀(t:List Z7) (b:Z0),Cs b->∃o,Z16_q13 l (Z16_qn n) t b=some o/\(match o with|Sum.inl c'=>Cq b c' 0|Sum.inr p=>Cq b p.2 p.1):=by
    intro t;induction t with
    | nil=>intro b hb; exact⟨_,rfl,⟨rfl,rfl,rfl,hb.1,fun _=>hb.2⟩⟩
    | cons x r ih =>
     intro b hb;rw [Z16_q13];simp only [Ab.on];rw [addC_ok (by omega),Option.bind_some];obtain⟨e2,c2,g1,g2⟩:=whole_tot n b x (l+1) hb (by omega) (by omega) (by omega);rw [g1,Option.bind_some];by_cases he2:e2=0
     ·rw [decide_eq_true he2,Bool.not_true,cond_false];obtain⟨o,o1,o2⟩:=ih c2 ⟨g2.2.2.2.1,g2.2.2.2.2 he2⟩;refine⟨o,o1, ?_⟩;cases o with
      | inl c'=>exact g2.trans o2
      | inr p=>exact g2.trans o2
     ·rw [decide_eq_false he2];exact⟨_,rfl,g2⟩
   obtain⟨o,o1,o2⟩:=loop v.FItems.l c1 ⟨h2.2.2.2.1,h2.2.2.2.2 he⟩;rw [o1,Option.bind_some];cases o with
   | inl c'=>exact⟨0,c',rfl,h2.trans o2⟩
   | inr p=>exact⟨p.1,p.2,rfl,h2.trans o2⟩
  ·rw [decide_eq_false he];exact⟨e,c1,rfl,h2⟩
end Go.Proofs

namespace Go.Proofs
open Go Go.Ab
theorem dlen:∀(f u:Nat),u<10 ^ f->(Lib.decDigits u).length<=f+1:=by
 intro f;induction f with
 | zero =>
  intro u hu;have:u=0:=by simpa using hu
  subst this; rw [Lib.decDigits]; simp
 | succ f ih =>
  intro u hu;rw [Lib.decDigits]
  split
  ·simp
  ·have:=ih (u / 10) (by rw [Nat.pow_succ] at hu; omega);simp; omega
theorem dlen20 {u:Nat}(h:u<=9223372036854775808):(Lib.decDigits u).length<=21:=dlen 20 u (by omega)
theorem itoaLen {n:Int}(h0 : -9223372036854775808<=n) (h1:n<=9223372036854775807):(Lib.itoa n).length<=22:=by
 unfold Lib.itoa
 split
 ·have:=dlen20 (u:=n.natAbs) (by omega); simp; omega
 ·have:=dlen20 (u:=n.toNat) (by omega); omega
theorem decimal_ok {n:Int}(h0 : -9223372036854775808<=n) (h1:n<=9223372036854775807):∃r,Z123_q n=some r:=by
 unfold Z123_q Z122_q Z122;rw [if_pos ⟨h0,h1,by have:=itoaLen h0 h1; unfold maxS; omega⟩];exact⟨_,rfl⟩
theorem Wv.kind {n:Nat}{v:Z7}(h:Wv (n+1) v) (k:Int):Wv (n+1) ⟨k,v.FInt,v.FText,v.FItems.nl,v.FItems.l,v.FKeys⟩:=h
theorem Wv.text (n:Nat) (s:Bs):Wv (n+1) (Z137_q s):=⟨⟨by show (-9223372036854775808:Int)<=0; decide,by show (0:Int)<=9223372036854775807; decide⟩,fun _=>rfl,by show 0<=_; omega,by show 0<=_; omega,fun _ h=>by cases h⟩
theorem leaf_tot {n:Nat}{v:Z7}(h:Wv (n+1) v) (c:Z0) (nm:Bs):∃x e,Z11_q c nm v=some (x,e)/\Wv (n+1) x:=by
 have z:Wv (n+1) zvT:=zvT_w.mono (by omega);have fin:∀(b:Bool) (x:Z7),Wv (n+1) x->∃y e,(bif (!b) then(some (zvT,(23:Int))) else(some (x,(0:Int))))=some (y,e)/\Wv (n+1) y:=by
  intro b x hx;cases b
  ·exact⟨zvT,23,rfl,z⟩
  ·exact⟨x,0,rfl,hx⟩
 unfold Z11_q;simp only [Ab.on];cases (nm==([73,110,116]:Bs))
 ·cases (nm==([83,116,114,105,110,103]:Bs))
  ·cases (nm==([66,111,111,108,101,97,110]:Bs))
   ·cases (nm==([73,68]:Bs))
    ·simp only [cond_false];have last:∀(w:Z7) (b:Bool),Wv (n+1) w->∃y e,(bif (!b) then(some (zvT,(23:Int))) else(some (w,(0:Int))))=some (y,e)/\Wv (n+1) y:=fun w b hw=>fin b w hw;cases (decide (v.FKind=(3:Int))&&(!c.Fliteral))
     ·exact last v _ h
     ·exact last _ _ (h.kind 4)
    ·simp only [cond_false,cond_true];cases decide (v.FKind=(2:Int))
     ·exact fin _ v h
     ·obtain⟨r,hr⟩:=decimal_ok h.1.1 h.1.2;rw [cond_true,hr,Option.bind_some,Option.bind_some];exact fin _ _ (Wv.text n r)
   ·exact fin _ v h
  ·exact fin _ v h
 ·exact fin _ v h
end Go.Proofs

namespace Go.Proofs
open Go Go.Ab
def nnW (w:List Int):Bool:=w.head?==some 1
def liW (w:List Int):Bool:=w.head?==some 2
def barS (s:Sl Int):Sl Int:=bif nnW s.l then⟨s.nl,s.l.drop 1⟩ else s
def bar (t:TRef):TRef:=⟨t.FName,barS t.FWraps⟩
def innerT (t:TRef):TRef:=⟨t.FName,⟨(barS t.FWraps).nl,(barS t.FWraps).l.drop 1⟩⟩
theorem clone_eq {s:Sl Int}(h:SOk s):Z112_q s=some s:=by
 unfold Z112_q;obtain⟨nl,l⟩:=s;cases nl with
 | true=>have:=h.1 rfl; simp only at this; subst this; rfl
 | false =>
  simp only [cond_false];rw [appC_ok (by omega) (by have:=h.2; simp at this ⊢; omega)];simp
theorem isNonNull_eq (t:TRef):Z127_q t=nnW t.FWraps.l:=by
 unfold Z127_q nnW on;cases t.FWraps.l with
 | nil=>rfl
 | cons a r=>simp; by_cases h:a=1<;>simp [h]
theorem head_one {w:List Int}(h:nnW w=true):1<=w.length:=by cases w<;>simp [nnW] at h ⊢
theorem sok_drop {α:Type}{s:Sl α}(n:Nat) (h:SOk s):SOk ⟨s.nl,s.l.drop n⟩:=⟨fun e=>by simp [h.1 e],by have:=h.2; simp; omega⟩
theorem barS_ok {s:Sl Int}(h:SOk s):SOk (barS s):=by
 unfold barS;cases nnW s.l with
 | true=>exact sok_drop 1 h
 | false=>exact h
theorem innerT_ok {t:TRef}(h:SOk t.FWraps):SOk (innerT t).FWraps:=sok_drop 1 (barS_ok h)
theorem nullable_eq {t:TRef}(h:SOk t.FWraps):Z130_q t=some (bar t):=by
 unfold Z130_q bar barS on;simp only [isNonNull_eq];cases hn:nnW t.FWraps.l with
 | true =>
  simp only [cond_true];rw [partC_tail (head_one hn)];simp only [Option.bind_some];rw [clone_eq (sok_drop 1 h)]; rfl
 | false =>
  simp only [cond_false,Option.bind_some];rw [clone_eq h]; rfl
theorem isList_eq {t:TRef}(h:SOk t.FWraps):Z126_q t=some (liW (barS t.FWraps).l):=by
 unfold Z126_q;rw [nullable_eq h];simp only [Option.bind_some,on,bar,liW];cases (barS t.FWraps).l with
 | nil=>rfl
 | cons a r=>simp; by_cases h:a=2<;>simp [h]
theorem list_one {w:List Int}(h:liW w=true):1<=w.length:=by cases w<;>simp [liW] at h ⊢
theorem inner_eq {t:TRef}(h:SOk t.FWraps):Z125_q t=some (bif liW (barS t.FWraps).l then(innerT t,true) else(⟨[],Sl.nil⟩,false)):=by
 unfold Z125_q;rw [isList_eq h];simp only [Option.bind_some];cases hl:liW (barS t.FWraps).l with
 | false=>rfl
 | true =>
  simp only [Bool.not_true,cond_false,cond_true];rw [nullable_eq h];simp only [Option.bind_some,bar];rw [partC_tail (list_one hl)];rfl
end Go.Proofs

namespace Go.Proofs
open Go Go.Ab
def lvM (N:Nat) (l:Int):Nat:=N+(27-l).toNat
theorem lvM_succ (N:Nat){l:Int}(h:l<=24):lvM N l=lvM N (l+1)+1:=by unfold lvM; omega
def GoodC (N:Nat) (d:TDoc) (c:Z0):Prop:=c.Fd=d/\Wv N c.Fvars/\Cs c
theorem GoodC.step {N:Nat}{d:TDoc}{c c':Z0}(h:GoodC N d c) (hq:Cq c c' 0):GoodC N d c' :=
 ⟨hq.1.trans h.1,by rw [hq.2.1]; exact h.2.1,hq.2.2.2.1,hq.2.2.2.2 rfl⟩
def OutT (N:Nat) (l:Int) (c:Z0) (o:Option (Z7×Int×Z0)):Prop:=∃x e c',o=some (x,e,c')/\Cq c c' e/\Wv (lvM N l) x
def AtT (N:Nat) (d:TDoc) (n:Nat) (l:Int):Prop:=∀c t v,GoodC N d c->SOk t.FWraps->Wv N v->OutT N l c (coerce_coercer_at_qn n c t v l)
theorem zvT_M {N:Nat}{l:Int}(h:1<=N):Wv (lvM N l) zvT:=zvT_w.mono (by unfold lvM; omega)
theorem list_tot {N:Nat}{d:TDoc}{n:Nat}{l:Int}(hN:1<=N) (h0 : -1000<=l) (hl:l<=24) (hA:AtT N d n (l+1)) (c:Z0) (t:TRef) (v:Z7) (hc:GoodC N d c) (ht:SOk t.FWraps) (hv:Wv N v):OutT N l c (coerce_coercer_list_qn (n+1) c t v l):=by
 obtain⟨N1,rfl⟩:∃k,N=k+1:=⟨N-1,by omega⟩;have loop:∀(r:List Z7) (b:Z0) (y:Z7),(∀x∈r,Wv (N1+1) x)->GoodC (N1+1) d b->(∀x∈y.FItems.l,Wv (lvM (N1+1) (l+1)) x)->y.FItems.l.length+r.length<=bB ->
   ∃o,coerce_coercer_list_q14 t l (coerce_coercer_at_qn n) r b y=some o/\(match o with
    | Sum.inl p=>Cq b p.1 0/\p.2.FInt=y.FInt/\p.2.FKeys=y.FKeys/\(∀x∈p.2.FItems.l,Wv (lvM (N1+1) (l+1)) x)/\p.2.FItems.l.length<=bB
    | Sum.inr p=>Cq b p.2.2 p.2.1/\p.1=zvT):=by
  intro r;induction r with
  | nil=>intro b y _ hb hy hlen; exact⟨_,rfl,⟨rfl,rfl,rfl,hb.2.2.1,fun _=>hb.2.2.2⟩,rfl,rfl,hy,by simpa using hlen⟩
  | cons a r ih =>
   intro b y hr hb hy hlen;simp only [List.length_cons] at hlen;rw [coerce_coercer_list_q14];simp only [Ab.on];rw [addC_ok (by omega),Option.bind_some];obtain⟨x,e,b2,e1,e2,e3⟩:=hA b t a hb ht (hr a (.head _));rw [e1,Option.bind_some];by_cases he:e=0
   ·subst he;have happ:appC 80 y.FItems (⟨false,[x]⟩:Sl Z7)=some ⟨y.FItems.nl&&List.isEmpty [x],y.FItems.l++[x]⟩:=appC80 (by unfold bB at hlen; simp; omega);simp only [decide_true,Bool.not_true,cond_false];rw [happ,Option.bind_some];obtain⟨o,o1,o2⟩:=ih b2 ⟨y.FKind,y.FInt,y.FText,y.FItems.nl&&List.isEmpty [x],y.FItems.l++[x],y.FKeys⟩ (fun z hz=>hr z (.tail _ hz)) (hb.step e2) (fun z hz=>by
     rcases List.mem_append.1 hz with hz|hz
     ·exact hy z hz
     ·rw [List.mem_singleton.1 hz]; exact e3) (by show (y.FItems.l++[x]).length+r.length<=bB; simp; omega)
    refine⟨o,o1, ?_⟩;cases o with
    | inl p=>exact⟨e2.trans o2.1,o2.2.1,o2.2.2.1,o2.2.2.2.1,o2.2.2.2.2⟩
    | inr p=>exact⟨e2.trans o2.1,o2.2⟩
   ·rw [show (!decide (e=0))=true by simpa using he,cond_true];exact⟨_,rfl,e2,rfl⟩
 rw [coerce_coercer_list_qn];simp only [Ab.on];have hitems:∀x∈(bif (!decide (v.FKind=(5:Int))) then((⟨false,[v]⟩:Sl Z7)) else(v.FItems)).l,Wv (N1+1) x:=by
  cases (!decide (v.FKind=(5:Int)))
  ·intro x hx; exact(hv.2.2.2.2 x hx).mono (by omega)
  ·intro x hx; rw [List.mem_singleton.1 hx]; exact hv
 have hlen:(bif (!decide (v.FKind=(5:Int))) then((⟨false,[v]⟩:Sl Z7)) else(v.FItems)).l.length<=bB:=by
  cases (!decide (v.FKind=(5:Int)))
  ·exact hv.2.2.2.1
  ·show 1<=bB; unfold bB; omega
 obtain⟨o,o1,o2⟩:=loop _ c (Z7.mk (5:Int) (0:Int) ([]:Bs) true ([]) (Sl.nil:Sl Bs)) hitems hc (fun _ h=>by cases h) (by show 0+_<=bB; rw [Nat.zero_add]; exact hlen);rw [o1,Option.bind_some];cases o with
 | inl p =>
  obtain⟨p1,p2,p3,p4,p5⟩:=o2;refine⟨p.2,0,p.1,rfl,p1, ?_⟩;rw [lvM_succ (N1+1) hl];refine⟨by rw [p2]; exact⟨by show (-9223372036854775808:Int)<=0; decide,by show (0:Int)<=9223372036854775807; decide⟩,by rw [p3]; exact fun _=>rfl,by rw [p3]; show 0<=bB; omega,p5,p4⟩
 | inr p =>
  refine⟨p.1,p.2.1,p.2.2,rfl,o2.1, ?_⟩;rw [o2.2]; exact zvT_M (by omega)
end Go.Proofs

namespace Go.Proofs
open Go Go.Ab
def tailT (n:Nat) (a1:TRef) (a3:Int) (y8_c0:Z0) (y9_l0:Z7):Option (Z7×Int×Z0) :=
 (Z10_q y8_c0 a3).bind fun x13=>bif (!decide (x13.1=(0:Int))) then(some (zvT,x13.1,x13.2)) else(bif (decide (y9_l0.FKind=(0:Int))) then(bif Z127_q a1 then(some (zvT,(23:Int),x13.2)) else(some (zvT,(0:Int),x13.2))) else((Z125_q a1).bind fun x28=>bif x28.2 then(((coerce_coercer_list_qn n) x13.2 x28.1 y9_l0 a3).bind fun x32=>some (x32.1,x32.2.1,x32.2.2)) else(bif (((Z105_q x13.2.Fd a1.FName).2&&(!(bif (Z105_q x13.2.Fd a1.FName).2 then Z110_q a1.FName else false)))&&(decide ((Z105_q x13.2.Fd a1.FName).1.FKind=(5:Int)))) then(((coerce_coercer_object_qn n) x13.2 (Z105_q x13.2.Fd a1.FName).1 y9_l0 a3).bind fun x40=>some (x40.1,x40.2.1,x40.2.2)) else((Z11_q x13.2 a1.FName y9_l0).bind fun x42=>some (x42.1,x42.2,x13.2)))))
theorem at_unfoldT (n:Nat) (a0:Z0) (a1:TRef) (a2:Z7) (a3:Int):coerce_coercer_at_qn (n+1) a0 a1 a2 a3 =
  bif (!Z107_q a0.Fd a1.FName) then(some (zvT,(10:Int),a0)) else(bif ((decide (a2.FKind=(7:Int)))&&a0.Fliteral) then((Z136_q a0.Fvars a2.FText).bind fun x46=>bif (!decide (x46.1.FKind=(0:Int))) then((Z16_q a0 x46.1 a3).bind fun x50=>bif (!decide (x50.1=(0:Int))) then(some (zvT,x50.1,x50.2)) else(some (x46.1,(0:Int),x50.2))) else(tailT n a1 a3 a0 x46.1)) else(tailT n a1 a3 a0 a2)):=by
 rw [coerce_coercer_at_qn]; rfl
def ListT (N:Nat) (d:TDoc) (n:Nat) (l:Int):Prop:=∀c t v,GoodC N d c->SOk t.FWraps->Wv N v->OutT N l c (coerce_coercer_list_qn n c t v l)
def ObjT (N:Nat) (d:TDoc) (n:Nat) (l:Int):Prop:=∀c nm v,GoodC N d c->Wv N v->OutT N l c (coerce_coercer_object_qn n c (Z105_q d nm).1 v l)
theorem OutT.eta {N:Nat}{l:Int}{c:Z0}{o:Option (Z7×Int×Z0)}(h:OutT N l c o):OutT N l c (o.bind fun x=>some (x.1,x.2.1,x.2.2)):=by
 obtain⟨x,e,c',h1,h2,h3⟩:=h;exact⟨x,e,c',by rw [h1]; rfl,h2,h3⟩
theorem OutT.after {N:Nat}{l:Int}{c c1:Z0}{o:Option (Z7×Int×Z0)}(h:Cq c c1 0) (h2:OutT N l c1 o):OutT N l c o:=by
 obtain⟨x,e,c',a1,a2,a3⟩:=h2;exact⟨x,e,c',a1,h.trans a2,a3⟩
theorem tail_tot {N:Nat}{d:TDoc}{n:Nat}{l:Int}(hN:1<=N) (hL:l<=24->ListT N d n l) (hO:l<=24->ObjT N d n l) (c:Z0) (t:TRef) (v:Z7) (hc:GoodC N d c) (ht:SOk t.FWraps) (hv:Wv N v):OutT N l c (tailT n t l c v):=by
 obtain⟨e,c1,h1,h2,h3⟩:=count_tot12 hc.2.2 l;unfold tailT;rw [h1,Option.bind_some];by_cases he:e=0
 ·subst he;have hl:=h3 rfl;have hg:=hc.step h2;simp only [decide_true,Bool.not_true,cond_false];cases decide (v.FKind=0)
  ·rw [cond_false,inner_eq ht,Option.bind_some];cases liW (barS t.FWraps).l
   ·rw [cond_false];simp only [cond_false];rw [hg.1];generalize (((Z105_q d t.FName).2&&(!(bif (Z105_q d t.FName).2 then Z110_q t.FName else false)))&&(decide ((Z105_q d t.FName).1.FKind=(5:Int))))=w;cases w
    ·obtain⟨N1,rfl⟩:∃k,N=k+1:=⟨N-1,by omega⟩;obtain⟨x,e,g1,g2⟩:=leaf_tot hv c1 t.FName;rw [cond_false,g1,Option.bind_some];exact⟨x,e,c1,rfl,⟨h2.1,h2.2.1,h2.2.2.1,h2.2.2.2.1,fun _=>h2.2.2.2.2 rfl⟩,g2.mono (by unfold lvM; omega)⟩
    ·exact(hO hl c1 t.FName v hg hv).eta.after h2
   ·exact(hL hl c1 (innerT t) v hg (innerT_ok ht) hv).eta.after h2
  ·rw [cond_true];cases Z127_q t
   ·exact⟨zvT,0,c1,rfl,h2,zvT_M hN⟩
   ·exact⟨zvT,23,c1,rfl,⟨h2.1,h2.2.1,h2.2.2.1,h2.2.2.2.1,fun h=>by cases h⟩,zvT_M hN⟩
 ·rw [show (!decide (e=0))=true by simpa using he,cond_true];exact⟨zvT,e,c1,rfl,h2,zvT_M hN⟩
theorem at_tot {N:Nat}{d:TDoc}{n:Nat}{l:Int}(hN:1<=N) (hN2:N<=1073741824) (h0 : -1000<=l) (hL:l<=24->ListT N d n l) (hO:l<=24->ObjT N d n l):AtT N d (n+1) l:=by
 intro c t v hc ht hv;rw [at_unfoldT];cases (!Z107_q c.Fd t.FName)
 ·rw [cond_false];cases ((decide (v.FKind=(7:Int)))&&c.Fliteral)
  ·exact tail_tot hN hL hO c t v hc ht hv
  ·obtain⟨N1,rfl⟩:∃k,N=k+1:=⟨N-1,by omega⟩;obtain⟨x,b,e1,e2⟩:=get_tot hc.2.1 (by omega) v.FText;have hx:Wv (N1+1) x:=by
    rcases e2 with ⟨-,h⟩|⟨-,h⟩
    ·exact h.mono (by omega)
    ·rw [h]; exact zvT_w.mono (by omega)
   rw [cond_true,e1,Option.bind_some];cases (!decide (x.FKind=0))
   ·exact tail_tot hN hL hO c t x hc ht hx
   ·obtain⟨e,c',w1,w2⟩:=whole_tot F0 c x l hc.2.2 h0 (by rw [F0_eq]; omega) (by rw [F0_eq]; omega);rw [cond_true,show Z16_q c x l=some (e,c') from w1,Option.bind_some];by_cases he:e=0
    ·subst he;simp only [decide_true,Bool.not_true,cond_false];exact⟨x,0,c',rfl,w2,hx.mono (by unfold lvM; omega)⟩
    ·rw [show (!decide (e=0))=true by simpa using he,cond_true];exact⟨zvT,e,c',rfl,w2,zvT_M hN⟩
 ·exact⟨zvT,10,c,rfl,⟨rfl,rfl,rfl,hc.2.2.1,fun h=>by cases h⟩,zvT_M hN⟩
end Go.Proofs

namespace Go.Proofs
open Go Go.Ab
def finT (y22:Z7) (nm:Bs) (kj26:Z0->Z7->Option (((Z0×Z7)) ⊕ ((Z7×Int×Z0)))) (s22:Int) (y44:Z0) (y45:Z7):Option (((Z0×Z7)) ⊕ ((Z7×Int×Z0))) :=
 bif (!decide (s22=(0:Int))) then(some (Sum.inr (zvT,s22,y44))) else((appC 16 y22.FKeys (⟨false,[nm]⟩:Sl Bs)).bind fun x50=>(appC 80 y22.FItems (⟨false,[y45]⟩:Sl Z7)).bind fun x51=>kj26 y44 (Z7.mk y22.FKind y22.FInt y22.FText x51.nl x51.l x50))
theorem obj_unfoldT (a1:TDef) (a2:Z7) (a3:Int) (kpl:Z0->Z4->Int->Option (Z7×Int×Z0)) (ka:Z0->TRef->Z7->Int->Option (Z7×Int×Z0)) (h:Z4) (r:List Z4) (i:Nat) (c:Z0) (x:Z7) :
  coerce_coercer_object_q18 a1 a2 a3 kpl ka (h::r) i c x=bif (Z106_q (⟨a1.FInputs.nl,a1.FInputs.l.take i⟩:Sl Z4) h.FName).2 then(coerce_coercer_object_q18 a1 a2 a3 kpl ka r (i+1) c x) else
   ((Z136_q a2 h.FName).bind fun x39=>guardO (x39.2) (Z13_q c x39.1) false fun x53 =>
    bif (x39.2&&(!x53)) then((addC a3 (1:Int)).bind fun x55=>(ka c h.FType x39.1 x55).bind fun x56=>finT x h.FName (coerce_coercer_object_q18 a1 a2 a3 kpl ka r (i+1)) x56.2.1 x56.2.2 x56.1)
    else(bif h.FHas then((addC a3 (1:Int)).bind fun x59=>(kpl c h x59).bind fun x60=>finT x h.FName (coerce_coercer_object_q18 a1 a2 a3 kpl ka r (i+1)) x60.2.1 x60.2.2 x60.1)
    else(bif Z127_q h.FType then(finT x h.FName (coerce_coercer_object_q18 a1 a2 a3 kpl ka r (i+1)) (22:Int) c Z7.zero) else(coerce_coercer_object_q18 a1 a2 a3 kpl ka r (i+1) c x)))):=by
 rw [coerce_coercer_object_q18]; rfl
def InOk (N:Nat) (h:Z4):Prop:=SOk h.FType.FWraps/\Wv N h.FDefault
def PlainT (N:Nat) (d:TDoc) (n:Nat) (l:Int):Prop:=∀c h,GoodC N d c->InOk N h->OutT N l c (Z14_qn n c h l)
def ObjS (N:Nat) (l:Int) (b:Z0) (o:Option (((Z0×Z7)) ⊕ ((Z7×Int×Z0)))):Prop:=∃z,o=some z/\(match z with
 | Sum.inl p=>Cq b p.1 0/\p.2.FInt=0/\(p.2.FKeys.nl=true->p.2.FKeys.l=[])/\p.2.FKeys.l.length<=2097152/\(∀x∈p.2.FItems.l,Wv (lvM N (l+1)) x)/\p.2.FItems.l.length<=2097152
 | Sum.inr p=>Cq b p.2.2 p.2.1/\p.1=zvT)
theorem ObjS.after {N:Nat}{l:Int}{a b:Z0}{o} (h:Cq a b 0) (h2:ObjS N l b o):ObjS N l a o:=by
 obtain⟨z,e,hz⟩:=h2;refine⟨z,e, ?_⟩;cases z with
 | inl p=>exact⟨h.trans hz.1,hz.2⟩
 | inr p=>exact⟨h.trans hz.1,hz.2⟩
theorem obj_loopT {N:Nat}{d:TDoc}{n:Nat}{l:Int}(hN2:N<=1073741824) (h0 : -1000<=l) (hl:l<=24) (hA:AtT (N+1) d n (l+1)) (hP:PlainT (N+1) d n (l+1)) (a:TDef) (v:Z7) (hv:Wv (N+1) v):∀(r:List Z4) (i:Nat) (c:Z0) (x:Z7),(∀h∈r,InOk (N+1) h)->GoodC (N+1) d c->x.FInt=0->(x.FKeys.nl=true->x.FKeys.l=[])->x.FKeys.l.length+r.length<=2097152->(∀y∈x.FItems.l,Wv (lvM (N+1) (l+1)) y)->x.FItems.l.length+r.length<=2097152->ObjS (N+1) l c (coerce_coercer_object_q18 a v l (Z14_qn n) (coerce_coercer_at_qn n) r i c x)
 | [],i,c,x,_,hc,h1,h2,h3,h4,h5=>⟨_,rfl,⟨rfl,rfl,rfl,hc.2.2.1,fun _=>hc.2.2.2⟩,h1,h2,by simpa using h3,h4,by simpa using h5⟩
 | h::r,i,c,x,hr,hc,h1,h2,h3,h4,h5=>by
  simp only [List.length_cons] at h3 h5;have hh:=hr h (.head _);have hr':∀z∈r,InOk (N+1) z:=fun z hz=>hr z (.tail _ hz);have skip:ObjS (N+1) l c (coerce_coercer_object_q18 a v l (Z14_qn n) (coerce_coercer_at_qn n) r (i+1) c x):=obj_loopT hN2 h0 hl hA hP a v hv r (i+1) c x hr' hc h1 h2 (by omega) h4 (by omega);have fin:∀(o:Option (Z7×Int×Z0)),OutT (N+1) (l+1) c o->ObjS (N+1) l c (o.bind fun x56=>finT x h.FName (coerce_coercer_object_q18 a v l (Z14_qn n) (coerce_coercer_at_qn n) r (i+1)) x56.2.1 x56.2.2 x56.1):=by
   intro o ho;obtain⟨y,e,c1,e1,e2,e3⟩:=ho;rw [e1,Option.bind_some];unfold finT;by_cases he:e=0
   ·subst he;have k1:appC 16 x.FKeys (⟨false,[h.FName]⟩:Sl Bs)=some ⟨x.FKeys.nl&&List.isEmpty [h.FName],x.FKeys.l++[h.FName]⟩:=appC_ok (by decide) (by simp; omega);have k2:appC 80 x.FItems (⟨false,[y]⟩:Sl Z7)=some ⟨x.FItems.nl&&List.isEmpty [y],x.FItems.l++[y]⟩:=appC80 (by simp; omega);simp only [decide_true,Bool.not_true,cond_false];rw [k1,Option.bind_some,k2,Option.bind_some];refine ObjS.after e2 (obj_loopT hN2 h0 hl hA hP a v hv r (i+1) c1 _ hr' (hc.step e2) h1 (fun h9=>absurd h9 (by show ¬((x.FKeys.nl&&false)=true); simp)) (by show (x.FKeys.l++[h.FName]).length+r.length<=2097152; simp; omega) (fun z hz=>?_) (by show (x.FItems.l++[y]).length+r.length<=2097152; simp; omega))
    rcases List.mem_append.1 hz with hz|hz
    ·exact h4 z hz
    ·rw [List.mem_singleton.1 hz]; exact e3
   ·rw [show (!decide (e=0))=true by simpa using he,cond_true];exact⟨_,rfl,e2,rfl⟩
  rw [obj_unfoldT];cases (Z106_q (⟨a.FInputs.nl,a.FInputs.l.take i⟩:Sl Z4) h.FName).2
  ·obtain⟨y,b,e1,e2⟩:=get_tot hv hN2 h.FName;obtain⟨m,hm⟩:=missing_tot hc.2.1 hN2 y;have hy:Wv (N+1) y:=by
    rcases e2 with ⟨-,h⟩|⟨-,h⟩
    ·exact h.mono (by omega)
    ·rw [h]; exact zvT_w.mono (by omega)
   have rest:ObjS (N+1) l c (bif h.FHas then((addC l (1:Int)).bind fun x59=>(Z14_qn n c h x59).bind fun x60=>finT x h.FName (coerce_coercer_object_q18 a v l (Z14_qn n) (coerce_coercer_at_qn n) r (i+1)) x60.2.1 x60.2.2 x60.1)
    else(bif Z127_q h.FType then(finT x h.FName (coerce_coercer_object_q18 a v l (Z14_qn n) (coerce_coercer_at_qn n) r (i+1)) (22:Int) c Z7.zero) else(coerce_coercer_object_q18 a v l (Z14_qn n) (coerce_coercer_at_qn n) r (i+1) c x))):=by
    cases h.FHas
    ·cases Z127_q h.FType
     ·exact skip
     ·exact⟨_,rfl,⟨rfl,rfl,rfl,hc.2.2.1,fun h=>by cases h⟩,rfl⟩
    ·rw [cond_true,addC_ok (by omega),Option.bind_some];exact fin _ (hP c h hc hh)
   have go:ObjS (N+1) l c ((addC l (1:Int)).bind fun x55=>(coerce_coercer_at_qn n c h.FType y x55).bind fun x56=>finT x h.FName (coerce_coercer_object_q18 a v l (Z14_qn n) (coerce_coercer_at_qn n) r (i+1)) x56.2.1 x56.2.2 x56.1):=by
    rw [addC_ok (by omega),Option.bind_some];exact fin _ (hA c h.FType y hc hh.1 hy)
   rw [cond_false,e1,Option.bind_some];cases b
   ·exact rest
   ·simp only [guardO,if_true,hm,Option.bind_some,Bool.true_and];cases m
    ·exact go
    ·exact rest
  ·exact skip
end Go.Proofs

namespace Go.Proofs
open Go Go.Ab
theorem keys_tot (c:Z0) (a:TDef):∀l:List Bs,coerce_coercer_object_q66 c a l=Sum.inl ()\/coerce_coercer_object_q66 c a l=Sum.inr (zvT,22,c)
 | []=>.inl rfl
 | k::l=>by
  rw [coerce_coercer_object_q66];simp only [Ab.on];cases (Z106_q a.FInputs k).2
  ·exact .inr rfl
  ·exact keys_tot c a l
theorem object_tot {N:Nat}{d:TDoc}{n:Nat}{l:Int}(hN2:N<=1073741824) (h0 : -1000<=l) (hl:l<=24) (hA:AtT (N+1) d n (l+1)) (hP:PlainT (N+1) d n (l+1)) (a:TDef) (ha:(∀h∈a.FInputs.l,InOk (N+1) h)/\a.FInputs.l.length<=2097152) (c:Z0) (v:Z7) (hc:GoodC (N+1) d c) (hv:Wv (N+1) v):OutT (N+1) l c (coerce_coercer_object_qn (n+1) c a v l):=by
 have same:∀e:Int,e≠0->Cq c c e:=fun e he=>⟨rfl,rfl,rfl,hc.2.2.1,fun h=>absurd h he⟩;rw [coerce_coercer_object_qn];cases (!decide (v.FKind=(6:Int)))
 ·rw [cond_false];simp only [Ab.on];rcases keys_tot c a v.FKeys.l with h|h
  ·rw [h];obtain⟨z,e,hz⟩:=obj_loopT hN2 h0 hl hA hP a v hv a.FInputs.l 0 c (Z7.mk (6:Int) (0:Int) ([]:Bs) true ([]) (Sl.nil:Sl Bs)) ha.1 hc rfl (fun _=>rfl) (by show 0+_<=_; rw [Nat.zero_add]; exact ha.2) (fun _ h=>by cases h) (by show 0+_<=_; rw [Nat.zero_add]; exact ha.2);simp only;rw [e,Option.bind_some];cases z with
   | inl p =>
    obtain⟨p1,p2,p3,p4,p5,p6⟩:=hz;refine⟨p.2,0,p.1,rfl,p1, ?_⟩;rw [lvM_succ (N+1) hl];exact⟨by rw [p2]; exact⟨by decide,by decide⟩,p3,by unfold bB; omega,by unfold bB; omega,p5⟩
   | inr p =>
    refine⟨p.1,p.2.1,p.2.2,rfl,hz.1, ?_⟩;rw [hz.2]; exact zvT_M (by omega)
  ·rw [h];exact⟨zvT,22,c,rfl,same 22 (by decide),zvT_M (by omega)⟩
 ·exact⟨zvT,23,c,rfl,same 23 (by decide),zvT_M (by omega)⟩
theorem plain_tot {N:Nat}{d:TDoc}{n:Nat}{l:Int}(hA:AtT (N+1) d n l):PlainT (N+1) d (n+1) l:=by
 intro c h hc hh;rw [Z14_qn];obtain⟨x,e,c1,h1,h2,h3⟩:=hA ⟨c.Fd,zvT,true,c.Fnodes⟩ h.FType h.FDefault ⟨hc.1,zvT_w.mono (by omega),hc.2.2⟩ hh.1 hh.2;rw [show (Z7.mk (0:Int) (0:Int) ([]:Bs) true ([]) (Sl.nil:Sl Bs))=zvT from rfl,h1,Option.bind_some];simp only [Ab.on];exact⟨x,e,_,rfl,⟨h2.1,rfl,rfl,h2.2.2.2.1,h2.2.2.2.2⟩,h3⟩
end Go.Proofs

namespace Go.Proofs
open Go Go.Ab
def InsOk (N:Nat) (d:TDoc):Prop:=∀nm,(∀h∈(Z105_q d nm).1.FInputs.l,InOk N h)/\(Z105_q d nm).1.FInputs.l.length<=2097152
theorem all_tot {N:Nat}{d:TDoc}(hN2:N<=1073741823) (hD:InsOk (N+1) d):∀(k:Nat) (l:Int),25-l<=(k:Int) -> -1000<=l->∀n,3*k+1<=n->AtT (N+1) d n l
 | 0,l,hk,h0,n,hn=>by
  obtain⟨m,rfl⟩:∃m,n=m+1:=⟨n-1,by omega⟩;exact at_tot (by omega) (by omega) h0 (fun h=>by omega) (fun h=>by omega)
 | k+1,l,hk,h0,n,hn=>by
  obtain⟨m,rfl⟩:∃m,n=m+1+1+1:=⟨n-3,by omega⟩;have hA2:=all_tot hN2 hD k (l+1) (by omega) (by omega) (m+1) (by omega);have hA1:=all_tot hN2 hD k (l+1) (by omega) (by omega) m (by omega);refine at_tot (by omega) (by omega) h0 (fun hl=>?_) (fun hl=>?_)
  ·intro c t v hc ht hv;exact list_tot (by omega) h0 hl hA2 c t v hc ht hv
  ·intro c nm v hc hv;exact object_tot (by omega) h0 hl hA2 (plain_tot hA1) _ (hD nm) c v hc hv
theorem literal_tot {N:Nat}{d:TDoc}(hN2:N<=1073741000) (hD:InsOk (N+1) d) (t:TRef) (v va:Z7) (ht:SOk t.FWraps) (hv:Wv (N+1) v) (hva:Wv (N+1) va):∃x e,Z9_q d t v va=some (x,e):=by
 unfold Z9_q;obtain⟨m,hm⟩:=missing_tot (c:=⟨d,va,true,0⟩) hva (by omega) v;rw [hm,Option.bind_some];cases m
 ·obtain⟨x,e,c',h1,h2,h3⟩:=all_tot (by omega) hD 24 1 (by omega) (by omega) F0 (by rw [F0_eq]; omega) ⟨d,va,true,0⟩ t v ⟨rfl,hva,by show (0:Int)<=0; decide,by show (0:Int)<=4096; decide⟩ ht hv;rw [cond_false,show coerce_coercer_at_q (Z0.mk d va true (0:Int)) t v (1:Int)=some (x,e,c') from h1,Option.bind_some];unfold Z17_q;simp only;cases (!decide (e=(0:Int)))
  ·obtain⟨r,e2,-⟩:=copy_ok (n:=lvM (N+1) 1) (by unfold lvM; omega) h3;rw [cond_false,e2];exact⟨_,_,rfl⟩
  ·exact⟨_,_,rfl⟩
 ·simp only [Ab.on];cases (!Z107_q d t.FName)<;>exact⟨_,_,rfl⟩
end Go.Proofs

namespace Go.Proofs
open Go Go.Ab
def fil (l:List Int):List Int:=l.filter fun x=>!decide (x=1)
theorem equalAux (a1:Sl Int):∀(l:List Int) (s:Nat),l.length+s=a1.l.length->Z118_q12 a1 l s=some (if l=a1.l.drop s then Sum.inl () else Sum.inr false)
 | [],s,h=>by
  rw [Z118_q12,if_pos];rw [List.drop_eq_nil_of_le]; simp at h; omega
 | x::r,s,h=>by
  simp only [List.length_cons] at h;have hs:s<a1.l.length:=by omega
  have hg:=List.getElem?_eq_getElem hs;rw [Z118_q12];simp only [Ab.on];rw [hg,Option.bind_some,equalAux a1 r (s+1) (by omega),Q.drop_of hg];generalize a1.l[s]=y;generalize a1.l.drop (s+1)=t;by_cases e:x=y
  ·subst e; simp only [decide_true,Bool.not_true,cond_false,List.cons.injEq,true_and]
  ·simp [e]
theorem equal_eq (a b:Sl Int):Z118_q a b=some (decide (a.l=b.l)):=by
 unfold Z118_q;by_cases h:a.l.length=b.l.length
 ·rw [show decide ((a.l.length:Int)=(b.l.length:Int))=true from decide_eq_true (by omega)];simp only [Bool.not_true,cond_false];rw [equalAux b a.l 0 (by omega),List.drop_zero];by_cases e:a.l=b.l<;>simp [e,Ab.on]
 ·rw [show decide ((a.l.length:Int)=(b.l.length:Int))=false from decide_eq_false (by omega)];have:a.l≠b.l:=fun e=>h (by rw [e]);simp [this]
theorem loose_eq {s:Sl Int}(h:SOk s):∃nl,Z134_q s=some ⟨nl,fil s.l⟩:=by
 unfold Z134_q;rw [clone_eq h,Option.bind_some,Option.bind_some];exact⟨s.nl,rfl⟩
theorem shape_eq {a b:TRef}(ha:SOk a.FWraps) (hb:SOk b.FWraps):Z132_q a b=some (a.FName==b.FName&&decide (fil a.FWraps.l=fil b.FWraps.l)):=by
 obtain⟨n1,h1⟩:=loose_eq ha;obtain⟨n2,h2⟩:=loose_eq hb;unfold Z132_q;rw [h1,h2];cases h:a.FName==b.FName
 ·simp [guardO]
 ·simp [guardO,equal_eq]
def barL (l:List Int):List Int:=bif nnW l then l.drop 1 else l
theorem barS_l (s:Sl Int):(barS s).l=barL s.l:=by unfold barS barL; cases nnW s.l<;>rfl
def wk:Nat->List Int->List Int->List Int
 | 0,_,_=>[]
 | n+1,a,b=>(bif nnW a&&nnW b then [1] else [])++(bif liW (barL a)&&liW (barL b) then 2::wk n ((barL a).drop 1) ((barL b).drop 1) else [])
theorem barL_len (l:List Int):(barL l).length<=l.length:=by unfold barL; cases nnW l<;>simp
theorem barL_lt {l:List Int}(h:liW (barL l)=true):((barL l).drop 1).length<l.length:=by
 have h1:=list_one h; have h2:=barL_len l; simp; omega
theorem weakAux:∀(n:Nat) (a b z o:TRef),a.FWraps.l.length<n->SOk a.FWraps->SOk b.FWraps->o.FWraps.l.length+2*a.FWraps.l.length<=1073741824->(o.FWraps.nl=true->o.FWraps.l=[]) ->
  ∃nl,Z133_l9 n a b z o=some (⟨o.FName,⟨nl,o.FWraps.l++wk n a.FWraps.l b.FWraps.l⟩⟩,true)/\(nl=true->o.FWraps.l++wk n a.FWraps.l b.FWraps.l=[])
 | 0,_,_,_,_,h,_,_,_,_=>by omega
 | n+1,a,b,z,o,h,ha,hb,hl,hz=>by
  have key:∀o':TRef,o'.FWraps.l.length+2*a.FWraps.l.length<=1073741825->(o'.FWraps.nl=true->o'.FWraps.l=[])->∃nl,Z133_j14 a b z (Z133_l9 n) o'=some (⟨o'.FName,⟨nl,o'.FWraps.l++(bif liW (barL a.FWraps.l)&&liW (barL b.FWraps.l) then 2::wk n ((barL a.FWraps.l).drop 1) ((barL b.FWraps.l).drop 1) else [])⟩⟩,true) /\
    (nl=true->o'.FWraps.l++(bif liW (barL a.FWraps.l)&&liW (barL b.FWraps.l) then 2::wk n ((barL a.FWraps.l).drop 1) ((barL b.FWraps.l).drop 1) else [])=[]):=by
   intro o' ho' hz';unfold Z133_j14;rw [Z125_eq,Z125_eq,inner_eq ha,inner_eq hb,Option.bind_some,Option.bind_some,barS_l,barS_l];cases h1:liW (barL a.FWraps.l)
   ·exact⟨o'.FWraps.nl,by simp,by simpa using hz'⟩
   ·cases h2:liW (barL b.FWraps.l)
    ·exact⟨o'.FWraps.nl,by simp,by simpa using hz'⟩
    ·simp only [cond_true,Bool.not_true,Bool.or_self,cond_false,Bool.and_self];have hlt:=barL_lt h1;have ea:(innerT a).FWraps.l=(barL a.FWraps.l).drop 1:=by unfold innerT; rw [barS_l]
     have eb:(innerT b).FWraps.l=(barL b.FWraps.l).drop 1:=by unfold innerT; rw [barS_l]
     rw [appC_ok (by decide) (by simp; omega),Option.bind_some];obtain⟨nl,h3,h4⟩:=weakAux n (innerT a) (innerT b) z ⟨o'.FName,⟨o'.FWraps.nl&&false,o'.FWraps.l++[2]⟩⟩ (by rw [ea]; omega) (innerT_ok ha) (innerT_ok hb) (by rw [ea]; simp only [List.length_append,List.length_singleton]; omega) (by simp);rw [show (List.isEmpty (⟨false,[(2:Int)]⟩:Sl Int).l)=false from rfl,h3,ea,eb];rw [ea,eb] at h4;exact⟨nl,by simp,fun e=>by have:=h4 e; simp at this⟩
  rw [Z133_l9,Z127_eq,Z127_eq,Option.bind_some,isNonNull_eq,isNonNull_eq];cases h1:nnW a.FWraps.l
  ·obtain⟨nl,h2,h5⟩:=key o (by omega) hz;exact⟨nl,by simp only [guardO]; simp only [Bool.false_eq_true,if_false,Bool.and_false,cond_false]; rw [h2,wk,h1]; simp,fun e=>by rw [wk,h1]; simpa using h5 e⟩
  ·cases h2:nnW b.FWraps.l
   ·obtain⟨nl,h3,h5⟩:=key o (by omega) hz;exact⟨nl,by simp only [guardO]; simp only [if_true,Option.bind_some,Bool.and_false,cond_false]; rw [h3,wk,h1,h2]; simp,fun e=>by rw [wk,h1,h2]; simpa using h5 e⟩
   ·obtain⟨nl,h3,h5⟩:=key ⟨o.FName,⟨o.FWraps.nl&&false,o.FWraps.l++[1]⟩⟩ (by simp only [List.length_append,List.length_singleton]; omega) (by simp);refine⟨nl, ?_,fun e=>by have:=h5 e; simp at this⟩;simp only [guardO,if_true,Option.bind_some,Bool.and_self,cond_true];rw [appC_ok (by decide) (by simp; omega),Option.bind_some];rw [show (List.isEmpty (⟨false,[(1:Int)]⟩:Sl Int).l)=false from rfl,h3,wk,h1,h2]
    simp
theorem weaken_eq' {a b:TRef}(ha:SOk a.FWraps) (hb:SOk b.FWraps):∃nl,Z133_q a b=some (bif (a.FName==b.FName&&decide (fil a.FWraps.l=fil b.FWraps.l)) then(⟨a.FName,⟨nl,wk F0 a.FWraps.l b.FWraps.l⟩⟩,true) else(⟨[],Sl.nil⟩,false))/\(nl=true->wk F0 a.FWraps.l b.FWraps.l=[]):=by
 have hl:=ha.2;obtain⟨nl,h1,h2⟩:=weakAux F0 a b TRef.zero ⟨a.FName,Sl.nil⟩ (by rw [F0_eq]; omega) ha hb (by simp [Sl.nil]; omega) (fun _=>rfl);refine⟨nl, ?_,fun e=>by simpa [Sl.nil] using h2 e⟩;unfold Z133_q Z133;rw [Z132_eq,shape_eq ha hb,Option.bind_some,h1];cases (a.FName==b.FName&&decide (fil a.FWraps.l=fil b.FWraps.l))<;>simp [Sl.nil]
theorem weaken_eq {a b:TRef}(ha:SOk a.FWraps) (hb:SOk b.FWraps):∃nl,Z133_q a b=some (bif (a.FName==b.FName&&decide (fil a.FWraps.l=fil b.FWraps.l)) then(⟨a.FName,⟨nl,wk F0 a.FWraps.l b.FWraps.l⟩⟩,true) else(⟨[],Sl.nil⟩,false)) :=
 let ⟨nl,h,_⟩:=weaken_eq' ha hb; ⟨nl,h⟩
theorem fits_eq {a b:TRef}(ha:SOk a.FWraps) (hb:SOk b.FWraps):Z124_q a b=some ((a.FName==b.FName&&decide (fil a.FWraps.l=fil b.FWraps.l))&&decide (wk F0 a.FWraps.l b.FWraps.l=b.FWraps.l)):=by
 obtain⟨nl,h⟩:=weaken_eq ha hb;unfold Z124_q;rw [h,Option.bind_some];cases hs:(a.FName==b.FName&&decide (fil a.FWraps.l=fil b.FWraps.l))
 ·simp [guardO]
 ·have hn:(a.FName==b.FName)=true:=by simp only [Bool.and_eq_true] at hs; exact hs.1
  simp only [guardO,cond_true,if_true];unfold Z131_q;rw [hn,equal_eq];simp [guardO]
def rt:List Int->Bool
 | []=>true
 | x::r=>(decide (x=1)||decide (x=2))&&!(decide (x=1)&&nnW r)&&rt r
end Go.Proofs


namespace Go.Proofs
open Go Go.Ab
theorem all_cons {α:Type}{P:α->Prop}{a:α}{r:List α}(h:P a) (h2:∀x∈r,P x):∀x∈a::r,P x:=fun x hx=>by
 rcases List.mem_cons.1 hx with rfl|hx
 ·exact h
 ·exact h2 x hx
inductive GVal (P:Bs->Prop):Z7->Prop
 | mk (v:Z7):(v.FKind=7->P v.FText)->(v.FKind=5\/v.FKind=6->∀x∈v.FItems.l,GVal P x)->GVal P v
def GArgs (P:Bs->Prop) (l:List TArg):Prop:=∀a∈l,GVal P a.FValue
def GDirs (P:Bs->Prop) (l:List TDir):Prop:=∀d∈l,GArgs P d.FArgs.l
structure Vq (c c':Z8) (k:Nat) (P:Prop):Prop where
 fd:c'.Fd=c.Fd
 fv:c'.Fvars=c.Fvars
 lo:c.Fout.l.length<=c'.Fout.l.length
 hi:c'.Fout.l.length<=c.Fout.l.length+k
 say:c'.Fout.l.length=c.Fout.l.length->P
theorem Vq.refl (c:Z8) (k:Nat){P:Prop}(h:P):Vq c c k P:=⟨rfl,rfl,Nat.le_refl _,by omega,fun _=>h⟩
theorem Vq.trans {a b c:Z8}{k m n:Nat}{P Q R:Prop}(h:Vq a b k P) (h':Vq b c m Q) (hn:k+m<=n) (hr:P->Q->R):Vq a c n R :=
 ⟨h'.fd.trans h.fd,h'.fv.trans h.fv,by have:=h.lo; have:=h'.lo; omega,by have:=h.hi; have:=h'.hi; omega,fun e=>by
  have:=h.lo; have:=h'.lo;exact hr (h.say (by omega)) (h'.say (by omega))⟩
theorem Vq.mono {a b:Z8}{k n:Nat}{P R:Prop}(h:Vq a b k P) (hn:k<=n) (hr:P->R):Vq a b n R :=
 ⟨h.fd,h.fv,h.lo,by have:=h.hi; omega,fun e=>hr (h.say e)⟩
def Vt (o:Option Z8) (c:Z8) (k:Nat) (P:Prop):Prop:=∃c',o=some c'/\Vq c c' k P
theorem Vt.bind {o:Option Z8}{f:Z8->Option Z8}{c:Z8}{k m n:Nat}{P Q R:Prop}(h:Vt o c k P) (hn:k+m<=n) (hr:P->Q->R)
  (hf:∀c',Vq c c' k P->Vt (f c') c' m Q):Vt (o.bind f) c n R:=by
 obtain⟨c1,e,h1⟩:=h;obtain⟨c2,e2,h2⟩:=hf c1 h1;exact⟨c2,by rw [e]; exact e2,h1.trans h2 hn hr⟩
theorem Vt.mono {o:Option Z8}{c:Z8}{k n:Nat}{P R:Prop}(h:Vt o c k P) (hn:k<=n) (hr:P->R):Vt o c n R:=by
 obtain⟨c1,e,h1⟩:=h; exact⟨c1,e,h1.mono hn hr⟩
theorem Vt.map {o:Option Z8}{c:Z8}{k:Nat}{P:Prop}(h:Vt o c k P):Vt (o.bind fun x=>some x) c k P:=by
 obtain⟨c1,e,h1⟩:=h; exact⟨c1,by rw [e]; rfl,h1⟩
theorem Vt.pure (c:Z8) (k:Nat){P:Prop}(h:P):Vt (some c) c k P:=⟨c,rfl,Vq.refl c k h⟩
theorem add_vt {c:Z8}(h:c.Fout.l.length<=1000000000) (b:Bool) (e:Int) (s:Bs):Vt (Z142_q c b e s) c 1 (b=false):=by
 unfold Z142_q;cases b
 ·exact Vt.pure c 1 rfl
 ·obtain⟨v,h1,h2⟩:=app24 (s:=c.Fout) (r:=⟨false,[Z1.mk e s]⟩) (by simp; omega);simp only [List.length_singleton] at h2;rw [cond_true,h1];exact⟨_,rfl,rfl,rfl,by show _<=v.l.length; omega,by show v.l.length<=_; omega,fun e'=>by have:v.l.length=c.Fout.l.length:=e'; omega⟩
theorem idxF {f:TVar->Bool}:∀(l:List TVar) (n:Nat),(∃i:Nat,∃h:i<l.length,Z119_q6 f l n=Sum.inr ((n+i:Nat):Int)/\f l[i]=true)\/(Z119_q6 f l n=Sum.inl ()/\∀x∈l,f x=false)
 | [],n=>.inr ⟨rfl,fun _ h=>by cases h⟩
 | a::r,n=>by
  rw [Z119_q6];simp only [Ab.on];cases h:f a
  ·rw [cond_false];rcases idxF (f:=f) r (n+1) with ⟨i,hi,e1,e2⟩|⟨e1,e2⟩
   ·exact .inl ⟨i+1,by simp only [List.length_cons]; omega,by rw [e1]; congr 2; omega,e2⟩
   ·exact .inr ⟨e1,all_cons h e2⟩
  ·exact .inl ⟨0,by simp,rfl,h⟩
theorem indexF_eq (s:Sl TVar) (f:TVar->Bool):(∃i:Nat,∃h:i<s.l.length,Z119_q s f=(i:Int)/\f s.l[i]=true)\/(Z119_q s f = -1/\∀x∈s.l,f x=false):=by
 unfold Z119_q;rcases idxF (f:=f) s.l 0 with ⟨i,h,e1,e2⟩|⟨e1,e2⟩
 ·exact .inl ⟨i,h,by rw [e1]; simp [Ab.on],e2⟩
 ·exact .inr ⟨by rw [e1]; rfl,e2⟩
theorem containsF_eq (s:Sl TVar) (f:TVar->Bool):Z114_q s f=s.l.any f:=by
 unfold Z114_q;simp only [Ab.on];rcases indexF_eq s f with ⟨i,h,e1,e2⟩|⟨e1,e2⟩
 ·rw [e1,show decide ((0:Int)<=(i:Int))=true from decide_eq_true (by omega)];exact(List.any_eq_true.2 ⟨_,List.getElem_mem h,e2⟩).symm
 ·rw [e1];have:s.l.any f=false:=by
   rw [List.any_eq_false]; intro x hx; simp [e2 x hx]
  rw [this]; rfl
def DSok (d:TDoc):Prop:=∀t∈d.FDefs.l,(∀i∈t.FInputs.l,SOk i.FType.FWraps)/\∀f∈t.FFields.l,∀i∈f.FArgs.l,SOk i.FType.FWraps
theorem findD (s:Bs):∀l:List TDef,Z105_q7 s l=Sum.inl ()\/∃t∈l,Z105_q7 s l=Sum.inr (t,true)
 | []=>.inl rfl
 | a::r=>by
  rw [Z105_q7];simp only [Ab.on];cases a.FName==s
  ·rcases findD s r with h|⟨t,h1,h2⟩
   ·exact .inl h
   ·exact .inr ⟨t,.tail _ h1,h2⟩
  ·exact .inr ⟨a,.head _,rfl⟩
theorem findD_mem (d:TDoc) (s:Bs):((Z105_q d s).1.FInputs.l=[]/\(Z105_q d s).1.FFields.l=[])\/(Z105_q d s).1∈d.FDefs.l:=by
 unfold Z105_q;rcases findD s d.FDefs.l with h|⟨t,h1,h2⟩
 ·rw [h]; exact .inl ⟨rfl,rfl⟩
 ·rw [h2]; exact .inr h1
theorem inputD (s:Bs):∀l:List Z4,Z106_q7 s l=Sum.inl ()\/∃t∈l,Z106_q7 s l=Sum.inr (t,true)
 | []=>.inl rfl
 | a::r=>by
  rw [Z106_q7];simp only [Ab.on];cases a.FName==s
  ·rcases inputD s r with h|⟨t,h1,h2⟩
   ·exact .inl h
   ·exact .inr ⟨t,.tail _ h1,h2⟩
  ·exact .inr ⟨a,.head _,rfl⟩
theorem nilRef_ok:SOk TRef.zero.FWraps:=⟨fun _=>rfl,by show 0<=_; omega⟩
theorem inputOf_sok {s:Sl Z4}(h:∀i∈s.l,SOk i.FType.FWraps) (n:Bs):SOk (Z106_q s n).1.FType.FWraps:=by
 unfold Z106_q;rcases inputD n s.l with e|⟨t,h1,h2⟩
 ·rw [e]; exact nilRef_ok
 ·rw [h2]; exact h t h1
theorem fieldD (s:Bs):∀l:List Z2,Z104_q7 s l=Sum.inl ()\/∃t∈l,Z104_q7 s l=Sum.inr (t,true)
 | []=>.inl rfl
 | a::r=>by
  rw [Z104_q7];simp only [Ab.on];cases a.FName==s
  ·rcases fieldD s r with h|⟨t,h1,h2⟩
   ·exact .inl h
   ·exact .inr ⟨t,.tail _ h1,h2⟩
  ·exact .inr ⟨a,.head _,rfl⟩
theorem fieldOf_sok {t:TDef}(h:∀f∈t.FFields.l,∀i∈f.FArgs.l,SOk i.FType.FWraps) (n:Bs):∀i∈(Z104_q t n).1.FArgs.l,SOk i.FType.FWraps:=by
 unfold Z104_q;rcases fieldD n t.FFields.l with e|⟨f,h1,h2⟩
 ·rw [e]; intro i hi; cases hi
 ·rw [h2]; exact h f h1
def vnames (c:Z8):List Bs:=c.Fvars.l.map TVar.FName
def VOk (c:Z8):Prop:=DSok c.Fd/\∀x∈c.Fvars.l,SOk x.FType.FWraps
theorem Vq.ok {c c':Z8}{k:Nat}{P:Prop}(h:Vq c c' k P) (hc:VOk c):VOk c':=by
 unfold VOk; rw [h.fd,h.fv]; exact hc
theorem Vq.names {c c':Z8}{k:Nat}{P:Prop}(h:Vq c c' k P):vnames c'=vnames c:=by
 unfold vnames; rw [h.fv]
theorem value_vt:∀(n:Nat) (c:Z8) (v:Z7) (t:TRef) (known:Bool) (at_:Bs),v.sz<n->SOk t.FWraps->VOk c->c.Fout.l.length+v.sz<=900000000 ->
  Vt (Z147_qn n c v t known at_) c v.sz (GVal (·∈vnames c) v)
 | 0,_,_,_,_,_,h,_,_,_=>by omega
 | n+1,c,v,t,known,at_,hn,ht,hc,hb=>by
  have hs:=v.sz_def;have hp:=Bs.sz_pos v.FText;have hsum:(v.FItems.l.map Z7.sz).sum+1=Sl.sz Z7.sz v.FItems:=by unfold Sl.sz; omega
  rw [Z147_qn];by_cases h7:v.FKind=7
  ·rw [decide_eq_true h7,cond_true];simp only [Ab.on];have hg:v.FText∈vnames c->GVal (·∈vnames c) v:=fun h=>⟨v,fun _=>h,fun h5=>by omega⟩;rcases indexF_eq c.Fvars (fun y0=>Z148_q y0 v) with ⟨i,hi,e1,e2⟩|⟨e1,e2⟩
   ·have hmem:v.FText∈vnames c:=by
     have e2:(c.Fvars.l[i].FName==v.FText)=true:=e2;have:c.Fvars.l[i].FName=v.FText:=by simpa using e2
     exact List.mem_map.2 ⟨_,List.getElem_mem hi,this⟩
    rw [e1,show decide ((i:Int)<(0:Int))=false from decide_eq_false (by omega),show (if (0:Int)>(i:Int) then(0:Int) else(i:Int))=(i:Int) from if_neg (by omega)];have hidx:idxC c.Fvars.l (i:Int)=some c.Fvars.l[i]:=by unfold idxC; rw [if_pos (by omega),Int.toNat_natCast,List.getElem?_eq_getElem hi]
    have hf:=fits_eq (hc.2 _ (List.getElem_mem hi)) ht;have fin:∀b:Bool,Vt ((Z142_q c b (27:Int) at_).bind fun x9=>some x9) c v.sz (GVal (·∈vnames c) v):=fun b=>(add_vt (by omega) b _ _).map.mono (by omega) fun _=>hg hmem;cases known
    ·simp only [guardO,Bool.and_false,Bool.false_eq_true,if_false];exact fin _
    ·simp only [guardO,Bool.not_false,Bool.and_self,if_true,Bool.true_and];rw [hidx,Option.bind_some];unfold Z140_q;rw [hf,Option.bind_some,Option.bind_some];exact fin _
   ·rw [e1,show decide ((-1:Int)<(0:Int))=true from rfl];simp only [guardO,Bool.not_true,Bool.false_and,if_false,Bool.true_or];exact(add_vt (by omega) true _ _).map.mono (by omega) fun h=>by cases h
  ·rw [decide_eq_false h7,cond_false];by_cases h5:v.FKind=5
   ·rw [decide_eq_true h5,cond_true,inner_eq ht,Option.bind_some];have hti:SOk (bif liW (barS t.FWraps).l then(innerT t,true) else((⟨[],Sl.nil⟩:TRef),false)).1.FWraps:=by
     cases liW (barS t.FWraps).l
     ·exact nilRef_ok
     ·exact innerT_ok ht
    generalize (bif liW (barS t.FWraps).l then(innerT t,true) else((⟨[],Sl.nil⟩:TRef),false))=x13 at hti ⊢;have loop:∀(l:List Z7) (c:Z8),(∀x∈l,x.sz<n)->VOk c->c.Fout.l.length+(l.map Z7.sz).sum<=900000000->Vt (Z147_q16 known at_ x13 (Z147_qn n) l c) c (l.map Z7.sz).sum (∀x∈l,GVal (·∈vnames c) x):=by
     intro l;induction l with
     | nil=>intro c _ _ _; exact Vt.pure c _ fun _ h=>by cases h
     | cons a r ih =>
      intro c hx hc hb;simp only [List.map_cons,List.sum_cons] at hb ⊢;rw [Z147_q16];simp only [Ab.on];refine Vt.bind (Q:=∀x∈r,GVal (·∈vnames c) x) (value_vt n c a x13.1 (known&&x13.2) at_ (hx a (.head _)) hti hc (by omega)) (Nat.le_refl _) (fun h1 h2=>all_cons h1 h2) fun c' hq=>?_;have:=hq.hi;have h:=ih c' (fun x h=>hx x (.tail _ h)) (hq.ok hc) (by omega);rw [hq.names] at h;exact h
    have hl:=loop v.FItems.l c (fun x hx=>by have:=Sl.mem_le (f:=Z7.sz) hx; omega) hc (by omega);exact hl.map.mono (by omega) fun h=>⟨v,fun e=>absurd e h7,fun _=>h⟩
   ·rw [decide_eq_false h5,cond_false];by_cases h6:v.FKind=6
    ·rw [decide_eq_true h6,cond_true];simp only [Ab.on];have hdef:∀i∈(Z105_q c.Fd t.FName).1.FInputs.l,SOk i.FType.FWraps:=by
      rcases findD_mem c.Fd t.FName with ⟨e,-⟩|h
      ·rw [e]; intro i hi; cases hi
      ·exact(hc.1 _ h).1
     generalize Z105_q c.Fd t.FName=x29 at hdef ⊢;have loop:∀(l:List Z7) (i:Nat) (c:Z8),(∀x∈l,x.sz<n)->VOk c->c.Fout.l.length+(l.map Z7.sz).sum<=900000000->Vt (Z147_q33 v known at_ x29 (Z147_qn n) l i c) c (l.map Z7.sz).sum (∀x∈l,GVal (·∈vnames c) x):=by
      intro l;induction l with
      | nil=>intro i c _ _ _; exact Vt.pure c _ fun _ h=>by cases h
      | cons a r ih =>
       intro i c hx hc hb;simp only [List.map_cons,List.sum_cons] at hb ⊢;rw [Z147_q33];simp only [Ab.on];have hz:∃z:Bool×Z4,(bif (((x29.2&&known)&&(decide (x29.1.FKind=(5:Int))))&&(decide (((i:Nat):Int)<((v.FKeys.l.length:Nat):Int)))) then((v.FKeys.l[i]?).bind fun x51=>some ((Z106_q x29.1.FInputs x51).2,(Z106_q x29.1.FInputs x51).1)) else(some (false,Z4.zero)))=some z/\SOk z.2.FType.FWraps:=by
        by_cases hlt:i<v.FKeys.l.length
        ·rw [show decide (((i:Nat):Int)<((v.FKeys.l.length:Nat):Int))=true from decide_eq_true (by omega),List.getElem?_eq_getElem hlt,Option.bind_some];cases (((x29.2&&known)&&(decide (x29.1.FKind=(5:Int))))&&true)
         ·exact⟨_,rfl,nilRef_ok⟩
         ·exact⟨_,rfl,inputOf_sok hdef _⟩
        ·rw [show decide (((i:Nat):Int)<((v.FKeys.l.length:Nat):Int))=false from decide_eq_false (by omega),Bool.and_false];exact⟨_,rfl,nilRef_ok⟩
       obtain⟨z,hz1,hz2⟩:=hz;rw [hz1,Option.bind_some];refine Vt.bind (Q:=∀x∈r,GVal (·∈vnames c) x) (value_vt n c a _ _ at_ (hx a (.head _)) hz2 hc (by omega)) (Nat.le_refl _) (fun h1 h2=>all_cons h1 h2) fun c' hq=>?_;have:=hq.hi;have h:=ih (i+1) c' (fun x h=>hx x (.tail _ h)) (hq.ok hc) (by omega);rw [hq.names] at h;exact h
     have hl:=loop v.FItems.l 0 c (fun x hx=>by have:=Sl.mem_le (f:=Z7.sz) hx; omega) hc (by omega);exact hl.map.mono (by omega) fun h=>⟨v,fun e=>absurd e h7,fun _=>h⟩
    ·rw [decide_eq_false h6];exact Vt.pure c _ ⟨v,fun e=>absurd e h7,fun e=>absurd e (fun e=>e.elim h5 h6)⟩
theorem boolT:∃t,Z129_q (Z128_q ([66,111,111,108,101,97,110]:Bs))=some t/\SOk t.FWraps:=⟨⟨[66,111,111,108,101,97,110],⟨false,[1]⟩⟩,by rfl,fun h=>by(cases h),by show 1<=_; omega⟩
theorem value_top (c:Z8) (v:Z7) (t:TRef) (known:Bool) (at_:Bs) (hv:v.sz<=1048576) (ht:SOk t.FWraps) (hc:VOk c) (hb:c.Fout.l.length+v.sz<=900000000) :
  Vt (Z147_q c v t known at_) c v.sz (GVal (·∈vnames c) v):=value_vt F0 c v t known at_ (by rw [F0_eq]; omega) ht hc hb
theorem dargs_vt (at_:Bs) (x12:TDir):∀(l:List TArg) (c:Z8),(∀a∈l,a.sz<=1048576)->VOk c->c.Fout.l.length+(l.map TArg.sz).sum<=900000000->Vt (Z145_q15 at_ x12 l c) c (l.map TArg.sz).sum (GArgs (·∈vnames c) l)
 | [],c,_,_,_=>Vt.pure c _ fun _ h=>by cases h
 | a::r,c,hx,hc,hb=>by
  have hs:=a.sz_def;have ha:=hx a (.head _);simp only [List.map_cons,List.sum_cons] at hb ⊢;rw [Z145_q15];simp only [Ab.on];obtain⟨t,e,ht⟩:=boolT;rw [e,Option.bind_some];refine Vt.bind (m:=(r.map TArg.sz).sum) (Q:=GArgs (·∈vnames c) r) (value_top c a.FValue t _ at_ (by omega) ht hc (by omega)) (by omega) (fun h1 h2=>all_cons h1 h2) fun c' hq=>?_;have:=hq.hi;have h:=dargs_vt at_ x12 r c' (fun x h=>hx x (.tail _ h)) (hq.ok hc) (by omega)
  rw [hq.names] at h;exact h
theorem dirs_loop_vt (at_:Bs):∀(l:List TDir) (c:Z8),(∀a∈l,a.sz<=1048576)->VOk c->c.Fout.l.length+(l.map TDir.sz).sum<=900000000->Vt (Z145_q3 at_ l c) c (l.map TDir.sz).sum (GDirs (·∈vnames c) l)
 | [],c,_,_,_=>Vt.pure c _ fun _ h=>by cases h
 | a::r,c,hx,hc,hb=>by
  have hs:=a.sz_def;have ha:=hx a (.head _);have hsum:(a.FArgs.l.map TArg.sz).sum+1=Sl.sz TArg.sz a.FArgs:=by unfold Sl.sz; omega
  simp only [List.map_cons,List.sum_cons] at hb ⊢;rw [Z145_q3];simp only [Ab.on];refine Vt.bind (m:=(r.map TDir.sz).sum) (Q:=GDirs (·∈vnames c) r) (dargs_vt at_ a a.FArgs.l c (fun x hx'=>by have:=Sl.mem_le (f:=TArg.sz) hx'; omega) hc (by omega)) (by omega) (fun h1 h2=>all_cons h1 h2) fun c' hq=>?_;have:=hq.hi;have h:=dirs_loop_vt at_ r c' (fun x h=>hx x (.tail _ h)) (hq.ok hc) (by omega);rw [hq.names] at h
  exact h
theorem dirs_vt (c:Z8) (s:Sl TDir) (at_:Bs) (hx:∀a∈s.l,a.sz<=1048576) (hc:VOk c) (hb:c.Fout.l.length+(s.l.map TDir.sz).sum<=900000000):Vt (Z145_q c s at_) c (s.l.map TDir.sz).sum (GDirs (·∈vnames c) s.l):=by
 unfold Z145_q;exact(dirs_loop_vt at_ s.l c hx hc hb).map
end Go.Proofs

namespace Go.Proofs
open Go Go.Ab
inductive GSel (P:Bs->Prop):TSel->Prop
 | mk (s:TSel):GDirs P s.FDirs.l->(s.FKind≠2->s.FKind≠3->GArgs P s.FArgs.l)->(s.FKind≠2->∀x∈s.FSels.l,GSel P x)->GSel P s
theorem sel_allV (s:TSel):(s.FArgs.l.map TArg.sz).sum+(s.FDirs.l.map TDir.sz).sum+(s.FSels.l.map TSel.sz).sum+s.FAlias.length+s.FName.length+3<=s.sz:=by
 have h:=s.sz_def; have h1:Bs.sz s.FAlias=s.FAlias.length+1:=rfl; have h2:Bs.sz s.FName=s.FName.length+1:=rfl;have h3:(s.FArgs.l.map TArg.sz).sum+1=Sl.sz TArg.sz s.FArgs:=by unfold Sl.sz; omega
 have h5:(s.FDirs.l.map TDir.sz).sum+1=Sl.sz TDir.sz s.FDirs:=by unfold Sl.sz; omega
 have h4:(s.FSels.l.map TSel.sz).sum+1=Sl.sz TSel.sz s.FSels:=by unfold Sl.sz; omega
 omega
theorem fargs_vt (at_:Bs) (f:Z2) (hf:∀i∈f.FArgs.l,SOk i.FType.FWraps):∀(l:List TArg) (c:Z8),(∀a∈l,a.sz<=1048576)->VOk c->c.Fout.l.length+(l.map TArg.sz).sum<=900000000->Vt (Z146_q18 at_ f l c) c (l.map TArg.sz).sum (GArgs (·∈vnames c) l)
 | [],c,_,_,_=>Vt.pure c _ fun _ h=>by cases h
 | a::r,c,hx,hc,hb=>by
  have hs:=a.sz_def;have ha:=hx a (.head _);simp only [List.map_cons,List.sum_cons] at hb ⊢;rw [Z146_q18];simp only [Ab.on];refine Vt.bind (m:=(r.map TArg.sz).sum) (Q:=GArgs (·∈vnames c) r) (value_top c a.FValue _ _ at_ (by omega) (inputOf_sok hf _) hc (by omega)) (by omega) (fun h1 h2=>all_cons h1 h2) fun c' hq=>?_;have:=hq.hi;have h:=fargs_vt at_ f hf r c' (fun x h=>hx x (.tail _ h)) (hq.ok hc) (by omega)
  rw [hq.names] at h;exact h
def SelsV (n:Nat):Prop:=∀(c:Z8) (l:Sl TSel) (on_ at_:Bs),2*(l.l.map TSel.sz).sum<n->(l.l.map TSel.sz).sum<=1048576->VOk c->at_.length+2*(l.l.map TSel.sz).sum<=100000000->c.Fout.l.length+(l.l.map TSel.sz).sum<=900000000 ->
 Vt (vars_checker_sels_qn n c l on_ at_) c (l.l.map TSel.sz).sum (∀x∈l.l,GSel (·∈vnames c) x)
def FieldV (n:Nat):Prop:=∀(c:Z8) (s:TSel) (on_ at_:Bs),2*(s.FSels.l.map TSel.sz).sum+1<n->s.sz<=1048576->s.FKind≠2->s.FKind≠3->VOk c->at_.length+2*s.sz<=100000000->c.Fout.l.length+s.sz<=900000000 ->
 Vt (Z146_qn n c s on_ at_) c s.sz (GSel (·∈vnames c) s)
theorem field_step {n:Nat}(h:SelsV n):FieldV (n+1):=by
 intro c s on_ at_ hn hz h2 h3 hc ha hb;have hs:=sel_allV s;rw [Z146_qn];simp only [Ab.on];have hk:(bif (s.FAlias==([]:Bs)) then s.FName else s.FAlias).length<=s.FAlias.length+s.FName.length:=by
  cases (s.FAlias==([]:Bs))<;>simp
 generalize (bif (s.FAlias==([]:Bs)) then s.FName else s.FAlias)=key at hk ⊢;rw [catC_ok (by simp; omega),Option.bind_some,catC_ok (by simp; omega),Option.bind_some];have hf:∀i∈(bif ((Z105_q c.Fd on_).2&&(bif (Z105_q c.Fd on_).2 then Z103_q c.Fd on_ else false)) then((Z104_q (Z105_q c.Fd on_).1 s.FName).1) else(Z2.zero)).FArgs.l,SOk i.FType.FWraps:=by
  have h0:∀f∈(Z105_q c.Fd on_).1.FFields.l,∀i∈f.FArgs.l,SOk i.FType.FWraps:=by
   rcases findD_mem c.Fd on_ with ⟨-,e⟩|h
   ·rw [e]; intro i hi; cases hi
   ·exact(hc.1 _ h).2
  cases ((Z105_q c.Fd on_).2&&(bif (Z105_q c.Fd on_).2 then Z103_q c.Fd on_ else false))
  ·intro i hi; cases hi
  ·exact fieldOf_sok h0 _
 generalize (bif ((Z105_q c.Fd on_).2&&(bif (Z105_q c.Fd on_).2 then Z103_q c.Fd on_ else false)) then((Z104_q (Z105_q c.Fd on_).1 s.FName).1) else(Z2.zero))=fd at hf ⊢;have hlen:(at_++([47]++key:Bs)).length<=at_.length+1+s.FAlias.length+s.FName.length:=by simp; omega
 generalize (at_++([47]++key:Bs))=at2 at hlen ⊢;refine Vt.bind (m:=(s.FDirs.l.map TDir.sz).sum+(s.FSels.l.map TSel.sz).sum) (Q:=GDirs (·∈vnames c) s.FDirs.l/\∀x∈s.FSels.l,GSel (·∈vnames c) x) (fargs_vt at2 fd hf s.FArgs.l c (fun x hx'=>by have:=sum_mem (f:=TArg.sz) hx'; omega) hc (by omega)) (by omega) (fun a b=>⟨s,b.1,fun _ _=>a,fun _=>b.2⟩) fun c1 q1=>?_;have l1:=q1.hi;rw [<- q1.names];refine Vt.bind (m:=(s.FSels.l.map TSel.sz).sum) (Q:=∀x∈s.FSels.l,GSel (·∈vnames c1) x) (dirs_vt c1 s.FDirs at2 (fun x hx'=>by have:=sum_mem (f:=TDir.sz) hx'; omega) (q1.ok hc) (by omega)) (Nat.le_refl _) (fun a b=>⟨a,b⟩) fun c2 q2=>?_
 have l2:=q2.hi;rw [<- q2.names];exact(h c2 s.FSels _ at2 (by omega) (by omega) (q2.ok (q1.ok hc)) (by omega) (by omega)).map
theorem sels_step {n:Nat}(h:SelsV n) (hf:FieldV n):SelsV (n+1):=by
 intro c l on_ at_ hn hz hc ha hb;have loop:∀(t:List TSel) (c:Z8),2*(t.map TSel.sz).sum<=n->(t.map TSel.sz).sum<=1048576->VOk c->at_.length+2*(t.map TSel.sz).sum<=100000000->c.Fout.l.length+(t.map TSel.sz).sum<=900000000 ->
   Vt (vars_checker_sels_q3 on_ at_ (vars_checker_sels_qn n) (Z146_qn n) t c) c (t.map TSel.sz).sum (∀x∈t,GSel (·∈vnames c) x):=by
  intro t;induction t with
  | nil=>intro c _ _ _ _ _; exact Vt.pure c _ fun _ h=>by cases h
  | cons s r ih =>
   intro c hn hz hc ha hb;simp only [List.map_cons,List.sum_cons] at hn hz ha hb ⊢;have hs:=sel_allV s;rw [vars_checker_sels_q3];simp only [Ab.on];refine Vt.bind (k:=s.sz) (P:=GSel (·∈vnames c) s) (m:=(r.map TSel.sz).sum) (Q:=∀x∈r,GSel (·∈vnames c) x) ?_ (Nat.le_refl _) (fun h1 h2=>all_cons h1 h2) fun c' hq=>?_
   ·have hd:=dirs_vt c s.FDirs at_ (fun x hx'=>by have:=sum_mem (f:=TDir.sz) hx'; omega) hc (by omega);by_cases h2:s.FKind=2
    ·rw [decide_eq_true h2,cond_true];exact hd.map.mono (by omega) fun g=>⟨s,g,fun e=>absurd h2 e,fun e=>absurd h2 e⟩
    ·rw [decide_eq_false h2,cond_false];by_cases h3:s.FKind=3
     ·rw [decide_eq_true h3,cond_true];refine Vt.bind (m:=(s.FSels.l.map TSel.sz).sum) (Q:=∀x∈s.FSels.l,GSel (·∈vnames c) x) hd (by omega) (fun a b=>⟨s,a,fun _ e=>absurd h3 e,fun _=>b⟩) fun c1 q1=>?_;have l1:=q1.hi;rw [<- q1.names];exact(h c1 s.FSels _ at_ (by omega) (by omega) (q1.ok hc) (by omega) (by omega)).map
     ·rw [decide_eq_false h3,cond_false];exact(hf c s on_ at_ (by omega) (by omega) h2 h3 hc (by omega) (by omega)).map
   ·have:=hq.hi;have h:=ih c' (by omega) (by omega) (hq.ok hc) (by omega) (by omega);rw [hq.names] at h;exact h
 rw [vars_checker_sels_qn];exact(loop l.l c (by omega) hz hc ha hb).map
theorem sels_all:∀n,SelsV n/\FieldV n
 | 0=>⟨fun _ _ _ _ h=>by omega,fun _ _ _ _ h=>by omega⟩
 | n+1=>⟨sels_step (sels_all n).1 (sels_all n).2,field_step (sels_all n).1⟩
theorem sels_vt (c:Z8) (l:Sl TSel) (on_ at_:Bs) (h:(l.l.map TSel.sz).sum<=1048576) (hc:VOk c) (ha:at_.length<=1048576) (hb:c.Fout.l.length+(l.l.map TSel.sz).sum<=900000000) :
  Vt (vars_checker_sels_q c l on_ at_) c (l.l.map TSel.sz).sum (∀x∈l.l,GSel (·∈vnames c) x):=(sels_all F0).1 c l on_ at_ (by rw [F0_eq]; omega) h hc (by omega) hb
end Go.Proofs

namespace Go.Proofs
open Go Go.Ab
def addU (l:List Bs) (x:Bs):List Bs:=bif l.contains x then l else l++[x]
def dd (l:List Bs):List Bs:=l.foldl addU []
theorem dd_snoc (l:List Bs) (x:Bs):dd (l++[x])=addU (dd l) x:=by simp [dd,List.foldl_append]
theorem addU_len (l:List Bs) (x:Bs):(addU l x).length<=l.length+1:=by unfold addU; cases l.contains x<;>simp
theorem fold_len:∀(l a:List Bs),(l.foldl addU a).length<=a.length+l.length
 | [],a=>by simp
 | x::r,a=>by have:=fold_len r (addU a x); have:=addU_len a x; simp only [List.foldl_cons,List.length_cons]; omega
theorem dd_len (l:List Bs):(dd l).length<=l.length:=by have:=fold_len l []; simpa [dd] using this
theorem addU_mem {l:List Bs}{x y:Bs}(h:y∈addU l x):y∈l\/y=x:=by
 unfold addU at h;cases hc:l.contains x
 ·rw [hc,cond_false] at h; simpa using h
 ·rw [hc] at h; exact .inl h
theorem fold_mem:∀(l a:List Bs) (y:Bs),y∈l.foldl addU a->y∈a\/y∈l
 | [],_,_,h=>.inl h
 | x::r,a,y,h=>by
  rcases fold_mem r _ y h with h|h
  ·rcases addU_mem h with h|h
   ·exact .inl h
   ·exact .inr (h▸.head _)
  ·exact .inr (.tail _ h)
theorem dd_mem {l:List Bs}{y:Bs}(h:y∈dd l):y∈l:=(fold_mem l [] y h).resolve_left (by simp)
def bigL:Nat:=549755813888
structure Uq (o o':Sl Bs) (k:Nat) (G:(Bs->Prop)->Prop):Prop where
 hi:o'.l.length<=o.l.length+k
 sub:∀P,G P->∀x∈o'.l,x∈o.l\/P x
def Ut (p:Option (Sl Bs)) (o:Sl Bs) (k:Nat) (G:(Bs->Prop)->Prop):Prop:=∃o',p=some o'/\Uq o o' k G
theorem Ut.pure (o:Sl Bs) (k:Nat) (G:(Bs->Prop)->Prop):Ut (some o) o k G:=⟨o,rfl,by omega,fun _ _ _ h=>.inl h⟩
theorem Ut.bind {p:Option (Sl Bs)}{f:Sl Bs->Option (Sl Bs)}{o:Sl Bs}{k m n:Nat}{G G' R:(Bs->Prop)->Prop}(h:Ut p o k G) (hn:k+m<=n) (hr:∀P,R P->G P/\G' P) (hf:∀o',o'.l.length<=o.l.length+k->Ut (f o') o' m G'):Ut (p.bind f) o n R:=by
 obtain⟨o1,e1,h1⟩:=h;obtain⟨o2,e2,h2⟩:=hf o1 h1.hi;refine⟨o2,by rw [e1]; exact e2,by have:=h1.hi; have:=h2.hi; omega,fun P hP x hx=>?_⟩;rcases h2.sub P (hr P hP).2 x hx with h|h
 ·exact h1.sub P (hr P hP).1 x h
 ·exact .inr h
theorem Ut.map {p:Option (Sl Bs)}{o:Sl Bs}{k:Nat}{G:(Bs->Prop)->Prop}(h:Ut p o k G):Ut (p.bind fun x=>some x) o k G:=by
 obtain⟨o1,e1,h1⟩:=h; exact⟨o1,by rw [e1]; rfl,h1⟩
theorem Ut.mono {p:Option (Sl Bs)}{o:Sl Bs}{k n:Nat}{G R:(Bs->Prop)->Prop}(h:Ut p o k G) (hn:k<=n) (hr:∀P,R P->G P):Ut p o n R:=by
 obtain⟨o1,e1,h1⟩:=h; exact⟨o1,e1,by have:=h1.hi; omega,fun P hP=>h1.sub P (hr P hP)⟩
theorem GVal.text {P:Bs->Prop}{v:Z7}(h:GVal P v) (h7:v.FKind=7):P v.FText:=by cases h with|mk _ a b=>exact a h7
theorem GVal.items {P:Bs->Prop}{v:Z7}(h:GVal P v) (h7:v.FKind=5\/v.FKind=6):∀x∈v.FItems.l,GVal P x:=by cases h with|mk _ a b=>exact b h7
theorem uses_ut:∀(n:Nat) (v:Z7) (o:Sl Bs),v.sz<n->o.l.length+v.sz<=bigL->Ut (Z149_qn n v o) o v.sz (fun P=>GVal P v)
 | 0,_,_,h,_=>by omega
 | n+1,v,o,hn,hb=>by
  have hs:=v.sz_def;have hp:=Bs.sz_pos v.FText;have hsum:(v.FItems.l.map Z7.sz).sum+1=Sl.sz Z7.sz v.FItems:=by unfold Sl.sz; omega
  have hb':=hb;unfold bigL at hb';rw [Z149_qn];by_cases h7:v.FKind=7
  ·rw [decide_eq_true h7,cond_true,appC_ok (by decide) (by simp; omega),Option.bind_some];refine⟨_,rfl,by simp; omega,fun P hP x hx=>?_⟩;rcases List.mem_append.1 hx with h|h
   ·exact .inl h
   ·rw [List.mem_singleton.1 h]; exact .inr (hP.text h7)
  ·rw [decide_eq_false h7,cond_false];simp only [Ab.on];by_cases h5:v.FKind=5\/v.FKind=6
   ·rw [show (bif decide (v.FKind=5) then decide (v.FKind=5) else decide (v.FKind=6))=true by rcases h5 with h|h<;>simp [h],cond_true];have loop:∀(l:List Z7) (o:Sl Bs),(∀x∈l,x.sz<n)->o.l.length+(l.map Z7.sz).sum<=bigL->Ut (Z149_q15 (Z149_qn n) l o) o (l.map Z7.sz).sum (fun P=>∀x∈l,GVal P x):=by
     intro l;induction l with
     | nil=>intro o _ _; exact Ut.pure o _ _
     | cons a r ih =>
      intro o hx hb;simp only [List.map_cons,List.sum_cons] at hb ⊢;rw [Z149_q15];simp only [Ab.on];exact(uses_ut n a o (hx a (.head _)) (by omega)).bind (Nat.le_refl _) (fun P h=>⟨h a (.head _),fun x hx=>h x (.tail _ hx)⟩) fun o' h'=>ih o' (fun x h=>hx x (.tail _ h)) (by omega)
    exact((loop v.FItems.l o (fun x hx=>by have:=Sl.mem_le (f:=Z7.sz) hx; omega) (by omega)).map.map).mono (by omega) fun P h=>h.items h5
   ·rw [show (bif decide (v.FKind=5) then decide (v.FKind=5) else decide (v.FKind=6))=false by
     have h1:¬v.FKind=5:=fun e=>h5 (.inl e);have h2:¬v.FKind=6:=fun e=>h5 (.inr e);simp [h1,h2],cond_false]
    exact Ut.pure o _ _
theorem uses_top (v:Z7) (o:Sl Bs) (hv:v.sz<=1048576) (hb:o.l.length+v.sz<=bigL):Ut (Z149_q v o) o v.sz (fun P=>GVal P v):=uses_ut F0 v o (by rw [F0_eq]; omega) hb
theorem wargs_ut:∀(l:List TArg) (o:Sl Bs),(∀a∈l,a.sz<=1048576)->o.l.length+(l.map TArg.sz).sum<=bigL->Ut (Z150_q63 l o) o (l.map TArg.sz).sum (fun P=>GArgs P l)
 | [],o,_,_=>Ut.pure o _ _
 | a::t,o,hx,hb=>by
  have hs:=a.sz_def;have ha:=hx a (.head _);simp only [List.map_cons,List.sum_cons] at hb ⊢;rw [Z150_q63];simp only [Ab.on];exact(uses_top a.FValue o (by omega) (by omega)).bind (m:=(t.map TArg.sz).sum) (by omega) (fun P h=>⟨h a (.head _),fun x hx=>h x (.tail _ hx)⟩) fun o' h1=>wargs_ut t o' (fun x hx'=>hx x (.tail _ hx')) (by omega)
theorem wdargs_ut:∀(l:List TArg) (o:Sl Bs),(∀a∈l,a.sz<=1048576)->o.l.length+(l.map TArg.sz).sum<=bigL->Ut (Z150_q51 l o) o (l.map TArg.sz).sum (fun P=>GArgs P l)
 | [],o,_,_=>Ut.pure o _ _
 | a::t,o,hx,hb=>by
  have hs:=a.sz_def;have ha:=hx a (.head _);simp only [List.map_cons,List.sum_cons] at hb ⊢;rw [Z150_q51];simp only [Ab.on];exact(uses_top a.FValue o (by omega) (by omega)).bind (m:=(t.map TArg.sz).sum) (by omega) (fun P h=>⟨h a (.head _),fun x hx=>h x (.tail _ hx)⟩) fun o' h1=>wdargs_ut t o' (fun x hx'=>hx x (.tail _ hx')) (by omega)
theorem wdirs_ut:∀(l:List TDir) (o:Sl Bs),(∀a∈l,a.sz<=1048576)->o.l.length+(l.map TDir.sz).sum<=bigL->Ut (Z150_q39 l o) o (l.map TDir.sz).sum (fun P=>GDirs P l)
 | [],o,_,_=>Ut.pure o _ _
 | a::t,o,hx,hb=>by
  have hs:=a.sz_def;have ha:=hx a (.head _);have hsum:(a.FArgs.l.map TArg.sz).sum+1=Sl.sz TArg.sz a.FArgs:=by unfold Sl.sz; omega
  simp only [List.map_cons,List.sum_cons] at hb ⊢;rw [Z150_q39];simp only [Ab.on];exact(wdargs_ut a.FArgs.l o (fun x hx'=>by have:=Sl.mem_le (f:=TArg.sz) hx'; omega) (by omega)).bind (m:=(t.map TDir.sz).sum) (by omega) (fun P h=>⟨h a (.head _),fun x hx=>h x (.tail _ hx)⟩) fun o' h1=>wdirs_ut t o' (fun x hx'=>hx x (.tail _ hx')) (by omega)
inductive NArg:TSel->Prop
 | mk (s:TSel):(s.FKind=2\/s.FKind=3->s.FArgs.l=[])->(∀x∈s.FSels.l,NArg x)->NArg s
theorem insS_mem' (l:List Bs) (s n:Bs):n∈insS l s↔n∈l\/n=s:=by
 unfold insS;cases hc:l.contains s
 ·simp [or_comm]
 ·have:s∈l:=by simpa using hc
  simp only [if_true,cond_true];exact⟨.inl,fun h=>h.elim id fun e=>e▸this⟩
def wgt (fr:Sl Z3) (T:Nat) (s:List Bs):Nat:=unseen fr s*(T+1)
theorem wgt_le {fr:Sl Z3}{T:Nat}{a b:List Bs}(h:∀s∈a,s∈b):wgt fr T b<=wgt fr T a:=Nat.mul_le_mul_right _ (unseen_le h)
theorem wgt_lt {fr:Sl Z3}{T:Nat}{a b:List Bs}(h:∀s∈a,s∈b){f:Z3}(hf:f∈fr.l) (h1:f.FName∉a) (h2:f.FName∈b):wgt fr T b+(T+1)<=wgt fr T a:=by
 have h3:(unseen fr b+1)*(T+1)<=unseen fr a*(T+1):=Nat.mul_le_mul_right _ (unseen_lt h hf h1 h2);rw [Nat.succ_mul] at h3; exact h3
def GW (q:Z6) (l:List TSel) (sp:List Bs) (P:Bs->Prop):Prop:=(∀s∈l,GSel P s)/\(∀s∈sp,∀x∈(fndG q.FFrags.l s).1.FSels.l,GSel P x)
def Wlk (q:Z6) (T:Nat) (p:Option (Sl Bs×List Bs)) (l:List TSel) (o:Sl Bs) (sp:List Bs) (m:Nat):Prop :=
 ∃o' sp',p=some (o',sp')/\(∀x∈sp,x∈sp')/\o'.l.length+wgt q.FFrags T sp'<=o.l.length+wgt q.FFrags T sp+m/\∀P,GW q l sp' P->∀x∈o'.l,x∈o.l\/P x
theorem walk_step {q:Z6}{T n:Nat}(hT1:T<=1048576) (hT:∀f∈q.FFrags.l,(f.FSels.l.map TSel.sz).sum<=T) (hA:∀f∈q.FFrags.l,∀x∈f.FSels.l,NArg x)
  (ih:∀(l:Sl TSel) (o:Sl Bs) (sp:List Bs),wgt q.FFrags T sp+(l.l.map TSel.sz).sum<n->(l.l.map TSel.sz).sum<=T->(∀x∈l.l,NArg x) ->
   o.l.length+wgt q.FFrags T sp+(l.l.map TSel.sz).sum<=bigL->Wlk q T (Z150_qn n q l sp o) l.l o sp (l.l.map TSel.sz).sum) :
  ∀(l:List TSel) (o:Sl Bs) (sp:List Bs),wgt q.FFrags T sp+(l.map TSel.sz).sum<=n->(l.map TSel.sz).sum<=T->(∀x∈l,NArg x) ->
   o.l.length+wgt q.FFrags T sp+(l.map TSel.sz).sum<=bigL->Wlk q T (Z150_q8 q (Z150_qn n) l o sp) l o sp (l.map TSel.sz).sum
 | [],o,sp,_,_,_,_=>⟨o,sp,rfl,fun _ h=>h,by omega,fun _ _ _ h=>.inl h⟩
 | h::t,o,sp,hn,hl,hna,hb=>by
  simp only [List.map_cons,List.sum_cons] at hn hl hb ⊢;have hp:=sel_allV h;obtain⟨ha1,ha2⟩:(h.FKind=2\/h.FKind=3->h.FArgs.l=[])/\(∀x∈h.FSels.l,NArg x):=by cases hna h (.head _) with|mk _ a b=>exact⟨a,b⟩
  have hargs:∀P,GSel P h->GArgs P h.FArgs.l:=by
   intro P hP;cases hP with
   | mk _ g1 g2 g3 =>
    by_cases h2:h.FKind=2
    ·rw [ha1 (.inl h2)]; intro _ h; cases h
    ·by_cases h3:h.FKind=3
     ·rw [ha1 (.inr h3)]; intro _ h; cases h
     ·exact g2 h2 h3
  have hdirs:∀P,GSel P h->GDirs P h.FDirs.l:=by intro P hP; cases hP with|mk _ g1 g2 g3=>exact g1
  obtain⟨o1,e1,q1⟩:=wargs_ut h.FArgs.l o (fun x hx=>by have:=sum_mem (f:=TArg.sz) hx; omega) (by omega);have l1:=q1.hi;obtain⟨o2,e2,q2⟩:=wdirs_ut h.FDirs.l o1 (fun x hx=>by have:=sum_mem (f:=TDir.sz) hx; omega) (by omega);have l2:=q2.hi;have own:∀P,GSel P h->∀x∈o2.l,x∈o.l\/P x:=fun P hP x hx=>by
   rcases q2.sub P (hdirs P hP) x hx with hx|hx
   ·exact q1.sub P (hargs P hP) x hx
   ·exact .inr hx
  rw [Z150_q8];simp only [Ab.on,ffind_eq];rw [e1,Option.bind_some,e2,Option.bind_some];have rest:∀(p:Option (Sl Bs×List Bs)) (o3:Sl Bs) (sp3:List Bs),p=some (o3,sp3)->(∀x∈sp,x∈sp3)->o3.l.length+wgt q.FFrags T sp3<=o2.l.length+wgt q.FFrags T sp+(h.FSels.l.map TSel.sz).sum ->
    (∀P spf,(∀x∈sp3,x∈spf)->GSel P h->GW q [] spf P->∀x∈o3.l,x∈o2.l\/P x) ->
    Wlk q T (p.bind fun z=>Z150_q8 q (Z150_qn n) t z.1 z.2) (h::t) o sp (h.sz+(t.map TSel.sz).sum):=by
   intro p o3 sp3 f1 f2 f3 f4;have hw:=wgt_le (fr:=q.FFrags) (T:=T) f2;obtain⟨o4,sp4,g1,g2,g3,g4⟩:=walk_step hT1 hT hA ih t o3 sp3 (by omega) (by omega) (fun x hx=>hna x (.tail _ hx)) (by omega);refine⟨o4,sp4,by rw [f1]; exact g1,fun x hx=>g2 x (f2 x hx),by omega,fun P hP x hx=>?_⟩;rcases g4 P ⟨fun s hs=>hP.1 s (.tail _ hs),hP.2⟩ x hx with hx|hx
   ·rcases f4 P sp4 g2 (hP.1 h (.head _)) ⟨fun s hs=>(by cases hs),hP.2⟩ x hx with hx|hx
    ·exact own P (hP.1 h (.head _)) x hx
    ·exact .inr hx
   ·exact .inr hx
  by_cases h2:h.FKind=2
  ·rw [decide_eq_true h2,cond_true];have skip:=rest (some (o2,sp)) o2 sp rfl (fun _ h=>h) (by omega) (fun _ _ _ _ _ _ h=>.inl h);cases hf:(fndG q.FFrags.l h.FName).2
   ·simp only [Bool.not_false,Bool.true_or,cond_true];exact skip
   ·obtain⟨hn1,hm⟩:=fndG_name hf;simp only [Bool.not_true,Bool.false_or];cases hc:sp.contains h.FName
    ·have hc':h.FName∉sp:=by simpa using hc
     rw [cond_false];have hsub:∀x∈sp,x∈insS sp h.FName:=fun x hx=>(insS_mem' _ _ _).2 (.inl hx);have hin:h.FName∈insS sp h.FName:=(insS_mem' _ _ _).2 (.inr rfl);have hwl:=wgt_lt (fr:=q.FFrags) (T:=T) hsub hm (by rw [hn1]; exact hc') (by rw [hn1]; exact hin);have hTm:=hT _ hm;obtain⟨o3,sp3,f1,f2,f3,f4⟩:=ih (fndG q.FFrags.l h.FName).1.FSels o2 (insS sp h.FName) (by omega) hTm (hA _ hm) (by omega);refine rest _ o3 sp3 (by rw [f1]; rfl) (fun x hx=>f2 x (hsub x hx)) (by omega) fun P spf hspf _ hW x hx=>?_
     exact f4 P ⟨fun s hs=>hW.2 h.FName (hspf _ (f2 _ hin)) s hs,fun s hs=>hW.2 s (hspf s hs)⟩ x hx
    ·rw [cond_true];exact skip
  ·rw [decide_eq_false h2,cond_false];obtain⟨o3,sp3,f1,f2,f3,f4⟩:=ih h.FSels o2 sp (by omega) (by omega) ha2 (by omega);refine rest _ o3 sp3 (by rw [f1]; rfl) f2 (by omega) fun P spf hspf hP hW x hx=>?_;have hin:∀s∈h.FSels.l,GSel P s:=by cases hP with|mk _ g1 g2 g3=>exact g3 h2
   exact f4 P ⟨hin,fun s hs=>hW.2 s (hspf s hs)⟩ x hx
theorem walk_all {q:Z6}{T:Nat}(hT1:T<=1048576) (hT:∀f∈q.FFrags.l,(f.FSels.l.map TSel.sz).sum<=T) (hA:∀f∈q.FFrags.l,∀x∈f.FSels.l,NArg x):∀(n:Nat) (l:Sl TSel) (o:Sl Bs) (sp:List Bs),wgt q.FFrags T sp+(l.l.map TSel.sz).sum<n->(l.l.map TSel.sz).sum<=T->(∀x∈l.l,NArg x) ->
   o.l.length+wgt q.FFrags T sp+(l.l.map TSel.sz).sum<=bigL->Wlk q T (Z150_qn n q l sp o) l.l o sp (l.l.map TSel.sz).sum
 | 0,_,_,_,h,_,_,_=>by omega
 | n+1,l,o,sp,hn,hl,hna,hb=>by
  obtain⟨o3,sp3,f1,f2⟩:=walk_step hT1 hT hA (walk_all hT1 hT hA n) l.l o sp (by omega) hl hna hb;exact⟨o3,sp3,by rw [Z150_qn,f1]; rfl,f2⟩
theorem walk_par (q:Z6):∀(n:Nat) (l:Sl TSel) (o:Sl Bs) (sp:List Bs) (s:Sl Bs) (o':Sl Bs) (sp':List Bs) (s':Sl Bs) (b:Bool),(∀x,x∈s.l↔x∈sp)->Z150_qn n q l sp o=some (o',sp')->Z97_qn n q l s=some (s',b)->∀x,x∈s'.l↔x∈sp'
 | 0,_,_,_,_,_,_,_,_,_,h,_=>by cases h
 | n+1,l,o,sp,s,o',sp',s',b,hs,h1,h2=>by
  have loop:∀(t:List TSel) (o:Sl Bs) (sp:List Bs) (s:Sl Bs) (b:Bool) (o':Sl Bs) (sp':List Bs) (s':Sl Bs) (b':Bool),(∀x,x∈s.l↔x∈sp)->Z150_q8 q (Z150_qn n) t o sp=some (o',sp')->Z97_q8 q (Z97_qn n) t s b=some (s',b')->∀x,x∈s'.l↔x∈sp':=by
   intro t;induction t with
   | nil =>
    intro o sp s b o' sp' s' b' hs h1 h2;rw [Z150_q8] at h1;rw [Z97_q8] at h2;cases h1; cases h2; exact hs
   | cons h r ih =>
    intro o sp s b o' sp' s' b' hs h1 h2;rw [Z150_q8] at h1;rw [Z97_q8] at h2;simp only [Ab.on,ffind_eq] at h1;simp only [Ab.on,rfind_eq,has_eq] at h2;obtain⟨o1,-,h1⟩:=Option.bind_eq_some_iff.1 h1;obtain⟨o2,-,h1⟩:=Option.bind_eq_some_iff.1 h1;obtain⟨⟨o3,sp3⟩,k1,h1⟩:=Option.bind_eq_some_iff.1 h1;obtain⟨⟨s3,b3⟩,k2,h2⟩:=Option.bind_eq_some_iff.1 h2;refine ih o3 sp3 s3 b3 o' sp' s' b' ?_ h1 h2;by_cases hk:h.FKind=2
    ·rw [decide_eq_true hk,cond_true] at k1 k2;cases hf:(fndG q.FFrags.l h.FName).2
     ·rw [hf] at k1 k2;simp only [Bool.not_false,Bool.true_or,cond_true] at k1 k2;cases k1; cases k2; exact hs
     ·rw [hf] at k1 k2;simp only [Bool.not_true,Bool.false_or,cond_false] at k1 k2;rw [(fndG_name hf).1] at k2;have hcc:s.l.contains h.FName=sp.contains h.FName:=by rw [Bool.eq_iff_iff]; simp [hs]
      rw [hcc] at k2;cases hc:sp.contains h.FName
      ·rw [hc] at k1 k2;simp only [cond_false,Bool.not_false,cond_true] at k1 k2;obtain⟨⟨o4,sp4⟩,m1,k1⟩:=Option.bind_eq_some_iff.1 k1;obtain⟨s5,m5,k2⟩:=Option.bind_eq_some_iff.1 k2;obtain⟨⟨s4,b4⟩,m2,k2⟩:=Option.bind_eq_some_iff.1 k2;cases k1; cases k2;refine walk_par q n _ _ _ s5 _ _ _ _ (fun x=>?_) m1 m2;unfold appC at m5
       split at m5
       ·cases m5;show x∈s.l++[h.FName]↔_;rw [List.mem_append,List.mem_singleton,hs,insS_mem']
       ·cases m5
      ·rw [hc] at k1 k2;simp only [cond_true,Bool.not_true,cond_false] at k1 k2;cases k1; cases k2; exact hs
    ·rw [decide_eq_false hk,cond_false] at k1 k2;obtain⟨⟨o4,sp4⟩,m1,k1⟩:=Option.bind_eq_some_iff.1 k1;obtain⟨⟨s4,b4⟩,m2,k2⟩:=Option.bind_eq_some_iff.1 k2;cases k1; cases k2;exact walk_par q n _ _ _ _ _ _ _ _ hs m1 m2
  rw [Z150_qn] at h1;rw [Z97_qn] at h2;obtain⟨⟨o1,sp1⟩,k1,h1⟩:=Option.bind_eq_some_iff.1 h1;obtain⟨⟨s1,b1⟩,k2,h2⟩:=Option.bind_eq_some_iff.1 h2;cases h1; cases h2;exact loop l.l o sp s _ _ _ _ _ hs k1 k2
end Go.Proofs

namespace Go.Proofs
open Go Go.Ab
theorem addC_nat {i:Nat}(h:i<=549755813888):addC (i:Int) 1=some ((i+1:Nat):Int):=by
 rw [addC_ok ⟨by omega,by omega⟩];rfl
theorem used_step (x:Sl Bs×List Bs) (hx:x.1.l.length<=549755813888) (n i:Nat) (acc:Sl Bs) (hlt:i<x.1.l.length) (ha:acc.l=dd (x.1.l.take i)) :
  ∃acc':Sl Bs,Z141_l15 x (n+1) acc (i:Int)=Z141_l15 x n acc' ((i+1:Nat):Int)/\acc'.l=dd (x.1.l.take (i+1)):=by
 rw [Z141_l15];have hg:=List.getElem?_eq_getElem hlt;rw [show decide ((i:Int)<(x.1.l.length:Int))=true from decide_eq_true (by omega),cond_true];have hidx:idxC x.1.l (i:Int)=some x.1.l[i]:=by unfold idxC; rw [if_pos (by simp),Int.toNat_natCast,hg]
 have hadd:addC (i:Int) 1=some ((i+1:Nat):Int):=addC_nat (by omega);have ht:x.1.l.take (i+1)=x.1.l.take i++[x.1.l[i]]:=by rw [List.take_add_one,hg]; rfl
 have hlen:acc.l.length<=x.1.l.length:=by rw [ha]; exact Nat.le_trans (dd_len _) (by simp; omega)
 rw [hidx,Option.bind_some,Z116_eq,contains_eq,Option.bind_some];unfold Z141_j21;cases hc:acc.l.contains x.1.l[i]
 ·rw [Bool.not_false,cond_true,appC_ok (by decide) (by simp only [List.length_singleton]; omega),Option.bind_some,hadd,Option.bind_some];exact⟨_,rfl,by rw [ht,dd_snoc,<- ha,addU,hc]; rfl⟩
 ·rw [Bool.not_true,cond_false,hadd,Option.bind_some];exact⟨_,rfl,by rw [ht,dd_snoc,<- ha,addU,hc]; rfl⟩
theorem used_loop (x:Sl Bs×List Bs) (hx:x.1.l.length<=549755813888):∀(n i:Nat) (acc:Sl Bs),i<=x.1.l.length->x.1.l.length<i+n->acc.l=dd (x.1.l.take i)->∃nl,Z141_l15 x n acc (i:Int)=some ⟨nl,dd x.1.l⟩:=by
 intro n;induction n with
 | zero=>intro i _ h h2; omega
 | succ n ih =>
  intro i acc hi hn ha;by_cases hlt:i<x.1.l.length
  ·obtain⟨acc',e,h⟩:=used_step x hx n i acc hlt ha;rw [e];exact ih (i+1) acc' (by omega) (by omega) h
  ·refine⟨acc.nl, ?_⟩;rw [Z141_l15,show decide ((i:Int)<(x.1.l.length:Int))=false from decide_eq_false (by omega),cond_false];rw [List.take_of_length_le (by omega)] at ha;unfold Z141_j7;rw [<- ha]
structure QV (q:Z6):Prop where
 frags:q.FFrags.l.length<=12
 ops:q.FOps.l.length<=8
 fsz:∀f∈q.FFrags.l,f.sz<=1048576
 osz:∀f∈q.FOps.l,f.sz<=1048576
 fna:∀f∈q.FFrags.l,∀x∈f.FSels.l,NArg x
 ona:∀f∈q.FOps.l,∀x∈f.FSels.l,NArg x
theorem QV.okV {q:Z6}(h:QV q):QOkV q:=⟨by have:=h.frags; omega,fun f hf=>by have:=h.fsz f hf; have:=@frag_sels f; omega⟩
theorem used_told {q:Z6}(hq:QV q){i:Nat}{o:TOp}(ho:q.FOps.l[i]?=some o):∃(u w:Sl Bs) (sp:List Bs),Z150_qn F0 q o.FSels [] Sl.nil=some (w,sp)/\Z141_q q (i:Int)=some u/\u.l=dd w.l /\
  ∀P,GW q o.FSels.l sp P->∀x∈u.l,P x:=by
 have hlt:i<q.FOps.l.length:=(List.getElem?_eq_some_iff.1 ho).1;have hmem:o∈q.FOps.l:=List.mem_of_getElem? ho;have hs:=hq.osz o hmem;have hs2:=@op_sels o;have hu:=unseen_all q.FFrags [];have h1:=hq.frags;have hw:wgt q.FFrags 1048576 []<=12*(1048576+1):=Nat.mul_le_mul_right _ (by omega);obtain⟨w,sp,e1,h3,h4,h5⟩:=walk_all (T:=1048576) (Nat.le_refl _) (fun f hf=>by have:=hq.fsz f hf; have:=@frag_sels f; omega) hq.fna F0 o.FSels Sl.nil [] (by rw [F0_eq]; omega) (by omega) (hq.ona o hmem) (by simp only [Sl.nil,List.length_nil]; unfold bigL; omega)
 simp only [Sl.nil,List.length_nil] at h4;have hlen:w.l.length<=549755813888:=by omega
 obtain⟨nl,h6⟩:=used_loop (w,sp) hlen F0 0 Sl.nil (Nat.zero_le _) (by rw [F0_eq]; simp only; omega) rfl;refine⟨⟨nl,dd w.l⟩,w,sp,e1, ?_,rfl,fun P hP x hx=>?_⟩
 ·unfold Z141_q Z141;rw [show decide ((i:Int)<(0:Int))=false from decide_eq_false (by omega),show decide (((q.FOps.l.length:Nat):Int)<=(i:Int))=false from decide_eq_false (by omega),Bool.or_self,cond_false];have hidx:idxC q.FOps.l (i:Int)=some o:=by unfold idxC; rw [if_pos (by simp),Int.toNat_natCast,ho]
  rw [hidx,Option.bind_some,Z150_eq];unfold Z150_q;rw [e1,Option.bind_some];exact h6
 ·rcases h5 P hP x (dd_mem hx) with h|h
  ·cases h
  ·exact h
theorem take_next {α:Type}{l r:List α}{i:Nat}{x:α}(h:l.drop i=x::r):l.take (i+1)=l.take i++[x]/\l.drop (i+1)=r/\l[i]?=some x:=by
 have h1:l[i]?=some x:=by
  have:=congrArg (fun t=>t[0]?) h
  simpa using this
 refine⟨by rw [List.take_add_one,h1]; rfl, ?_,h1⟩;have:=congrArg (List.drop 1) h
 simpa [List.drop_drop] using this
theorem wvZero (n:Nat):Wv (n+1) (Z7.mk (6:Int) (0:Int) ([]:Bs) true ([]) (Sl.nil:Sl Bs)):=(zvT_w.kind 6).mono (by omega)
theorem defs_loop_vt {N:Nat}{d:TDoc}(hN2:N<=1073741000) (hD:InsOk (N+1) d) (a1:TOp) (a2:Sl Bs):∀(l:List TVar) (i:Nat) (c:Z8),a1.FVars.l.drop i=l->(∀x∈l,SOk x.FType.FWraps/\Wv (N+1) x.FDefault)->c.Fd=d->c.Fout.l.length+5*l.length<=900000000 ->
  Vt (Z143_q4 a1 a2 l i c) c (5*l.length) ((∀x∈l,x.FName∈a2.l)/\(((a1.FVars.l.take i).map TVar.FName).Nodup->(a1.FVars.l.map TVar.FName).Nodup))
 | [],i,c,hl,_,_,_=>Vt.pure c _ ⟨(fun _ h=>by cases h),(fun h=>by
   have:a1.FVars.l.length<=i:=List.drop_eq_nil_iff.1 hl
   rwa [List.take_of_length_le this] at h)⟩
 | x::r,i,c,hl,hx,hd,hb=>by
  obtain⟨t1,t2,-⟩:=take_next hl;obtain⟨hx1,hx2⟩:=hx x (.head _);simp only [List.length_cons] at hb ⊢;rw [Z143_q4];simp only [Ab.on];rw [containsF_eq];generalize hany:List.any (a1.FVars.l.take i) (fun y0=>Z144_q y0 x)=tw;refine Vt.bind (m:=4+5*r.length) (Q:=x.FName∈a2.l/\(∀y∈r,y.FName∈a2.l)/\(((a1.FVars.l.take (i+1)).map TVar.FName).Nodup->(a1.FVars.l.map TVar.FName).Nodup)) (add_vt (by omega) tw 7 _) (by omega) (fun h1 h2=>?_) fun c1 q1=>?_
  ·obtain⟨h2,h3,h4⟩:=h2;refine⟨all_cons h2 h3,fun hn=>h4 ?_⟩;rw [t1,List.map_append,List.nodup_append];refine⟨hn,by simp,fun a ha b hb e=>?_⟩;obtain⟨z,hz,rfl⟩:=List.mem_map.1 ha;simp only [List.map_cons,List.map_nil,List.mem_singleton] at hb;rw [h1] at hany;have:=List.any_eq_false.1 hany z hz;exact this (by unfold Z144_q; rw [e,hb]; simp)
  have l1:=q1.hi;rw [q1.fd,hd];generalize ((Z105_q d x.FType.FName).2||bif !(Z105_q d x.FType.FName).2 then Z110_q x.FType.FName else false)=b1;generalize Z107_q d x.FType.FName=b2;refine Vt.bind (m:=3+5*r.length) (add_vt (by omega) _ 8 _) (by omega) (fun _ h=>h) fun c2 q2=>?_;have l2:=q2.hi;refine Vt.bind (m:=2+5*r.length) (add_vt (by omega) _ 10 _) (by omega) (fun _ h=>h) fun c3 q3=>?_;have l3:=q3.hi
  refine Vt.bind (k:=1) (P:=True) (m:=1+5*r.length) ?_ (by omega) (fun _ h=>h) fun c4 q4=>?_
  ·cases (x.FHas&&b2)
   ·exact Vt.pure c3 1 trivial
   ·obtain⟨w,e,hlit⟩:=literal_tot hN2 hD x.FType x.FDefault _ hx1 hx2 (wvZero N);rw [cond_true,show c3.Fd=d from by rw [q3.fd,q2.fd,q1.fd,hd],hlit,Option.bind_some];exact(add_vt (by omega) _ 23 _).map.mono (by omega) fun _=>trivial
  have l4:=q4.hi;rw [contains_eq];refine Vt.bind (m:=5*r.length) (add_vt (by omega) _ 26 _) (by omega) (fun h1 h2=>⟨by simpa using h1,h2⟩) fun c5 q5=>?_;have l5:=q5.hi;exact defs_loop_vt hN2 hD a1 a2 r (i+1) c5 t2 (fun y hy=>hx y (.tail _ hy)) (by rw [q5.fd,q4.fd,q3.fd,q2.fd,q1.fd,hd]) (by omega)
theorem defs_vt {N:Nat}{d:TDoc}(hN2:N<=1073741000) (hD:InsOk (N+1) d) (a1:TOp) (a2:Sl Bs) (c:Z8) (hx:∀x∈a1.FVars.l,SOk x.FType.FWraps/\Wv (N+1) x.FDefault) (hd:c.Fd=d) (hb:c.Fout.l.length+5*a1.FVars.l.length<=900000000) :
  Vt (Z143_q c a1 a2) c (5*a1.FVars.l.length) ((∀x∈a1.FVars.l,x.FName∈a2.l)/\(a1.FVars.l.map TVar.FName).Nodup):=by
 unfold Z143_q;exact(defs_loop_vt hN2 hD a1 a2 a1.FVars.l 0 c rfl hx hd hb).map.mono (Nat.le_refl _) fun h=>⟨h.1,h.2 (by simp)⟩
theorem vfrags_vt {q:Z6}(hq:QV q):∀(l:List Bs) (c:Z8),VOk c->c.Fout.l.length+1048576*l.length<=900000000->Vt (Z139_q31 q l c) c (1048576*l.length) (∀n∈l,∀x∈(fndG q.FFrags.l n).1.FSels.l,GSel (·∈vnames c) x)
 | [],c,_,_=>Vt.pure c _ fun _ h=>by cases h
 | n::r,c,hc,hb=>by
  simp only [List.length_cons] at hb ⊢;rw [Z139_q31];simp only [Ab.on,ffind_eq];have hz:(fndG q.FFrags.l n).1.sz<=1048576:=by
   cases h:(fndG q.FFrags.l n).2
   ·rw [fndG_none h]; decide
   ·exact hq.fsz _ (fndG_name h).2
  have hs:=@frag_sels (fndG q.FFrags.l n).1;refine Vt.bind (k:=1048576) (m:=1048576*r.length) (Q:=∀n∈r,∀x∈(fndG q.FFrags.l n).1.FSels.l,GSel (·∈vnames c) x) ((sels_vt c _ _ _ (by omega) hc (by omega) (by omega)).mono (by omega) id) (by omega) (fun a b=>all_cons a b) fun c' hq'=>?_;have:=hq'.hi;have h:=vfrags_vt hq r c' (hq'.ok hc) (by omega);rw [hq'.names] at h;exact h
theorem reach_told {q:Z6}(hV:QOkV q) (h1:q.FFrags.l.length<=12) (l:Sl TSel) (hl:(l.l.map TSel.sz).sum<=1048576):∃s b,Z97_qn F0 q l Sl.nil=some (s,b)/\s.l.length<=12/\∃b',Z19_q q l=some (s,b'):=by
 have hu:=unseen_all q.FFrags [];have hm:unseen q.FFrags []*(1048576+1)<=12*(1048576+1):=Nat.mul_le_mul_right _ (by omega);obtain⟨s,b,e,_,h2⟩:=visit_tot hV.2 F0 l Sl.nil (by rw [F0_eq]; simp only [Sl.nil]; omega) hl (by simp only [Sl.nil,List.length_nil]; omega);simp only [Sl.nil,List.length_nil] at h2;refine⟨s,b,e,by omega, ?_⟩;have loop:∀(t:List Bs) (b:Bool),∃b',Z19_q10 q t b=some b':=by
  intro t;induction t with
  | nil=>intro b; exact⟨b,rfl⟩
  | cons a r ih =>
   intro b;rw [Z19_q10];simp only [Ab.on,ffind_eq];obtain⟨v,-,hv⟩:=circ_tot hV (fndG q.FFrags.l a).1 (fndG_sum hV a);cases b
   ·exact ih _
   ·simp only [guardO,if_true];rw [hv,Option.bind_some];exact ih _
 obtain⟨b',hb'⟩:=loop s.l b;refine⟨b', ?_⟩;unfold Z19_q Z21_q;rw [walk_eq,e,Option.bind_some,hb'];rfl
end Go.Proofs

namespace Go.Proofs
open Go Go.Ab
set_option maxRecDepth 100000 in
theorem example16:Z23=some true:=by kernel_rfl
end Go.Proofs

namespace Go.Proofs
open Go Go.Ab
theorem sokW {t:TRef}(hw:t.wf) (hs:t.sz<=1048576):SOk t.FWraps:=⟨hw.2.1.1,by have:=TRef.wraps_le t; omega⟩
theorem docDef {d:TDoc}{t:TDef}(h:t∈d.FDefs.l):t.sz<=d.sz:=by
 have h1:=d.sz_def;have h2:=Sl.mem_le (f:=TDef.sz) h;omega
theorem dsok_of {d:TDoc}(hw:d.wf) (hs:d.sz<=1048576):DSok d:=by
 intro t ht;have h0:=docDef ht;have hwt:=(TDoc.FDefs_wf hw).2.2 t ht;have h1:=t.sz_def;refine⟨fun i hi=>?_,fun f hf i hi=>?_⟩
 ·have h2:=Sl.mem_le (f:=Z4.sz) hi;have h3:=i.sz_def;exact sokW (Z4.FType_wf ((TDef.FInputs_wf hwt).2.2 i hi)) (by omega)
 ·have h2:=Sl.mem_le (f:=Z2.sz) hf;have h3:=f.sz_def;have h4:=Sl.mem_le (f:=Z4.sz) hi;have h5:=i.sz_def;exact sokW (Z4.FType_wf ((Z2.FArgs_wf ((TDef.FFields_wf hwt).2.2 f hf)).2.2 i hi)) (by omega)
theorem insOk_of {d:TDoc}(hw:d.wf) (hs:d.sz<=1048576):InsOk (1048575+1) d:=by
 intro nm;rcases findD_mem d nm with ⟨e,-⟩|ht
 ·rw [e]; exact⟨fun _ h=>(by cases h),by show 0<=_; omega⟩
 ·generalize (Z105_q d nm).1=t at ht;have h0:=docDef ht;have hwt:=(TDoc.FDefs_wf hw).2.2 t ht;have h1:=t.sz_def;have hl:=Sl.len_le (f:=Z4.sz) t.FInputs (fun x=>Z4.pos x);refine⟨fun i hi=>?_,by omega⟩;have h2:=Sl.mem_le (f:=Z4.sz) hi;have h3:=i.sz_def;have hwi:=(TDef.FInputs_wf hwt).2.2 i hi;exact⟨sokW (Z4.FType_wf hwi) (by omega),Wv.of _ _ (by omega) (by omega) (Z4.FDefault_wf hwi)⟩
theorem vars_of {q:Z6}(hw:q.wf) (hs:q.sz<=1048576):∀o∈q.FOps.l,∀x∈o.FVars.l,SOk x.FType.FWraps/\Wv (1048575+1) x.FDefault:=by
 intro o ho x hx;have h0:=q.sz_def;have h1:=Sl.mem_le (f:=TOp.sz) ho;have h2:=o.sz_def;have h3:=Sl.mem_le (f:=TVar.sz) hx;have h4:=x.sz_def;have hwo:=(Z6.FOps_wf hw).2.2 o ho;have hwx:=(TOp.FVars_wf hwo).2.2 x hx;exact⟨sokW (TVar.FType_wf hwx) (by omega),Wv.of _ _ (by omega) (by omega) (TVar.FDefault_wf hwx)⟩
theorem sels_narg:∀n,(∀(l:Sl TSel) (a:Int),r08_selsRight_qn n l a=some true->∀x∈l.l,NArg x)/\(∀(s:TSel) (a:Int),Z47_qn n s a=some true->NArg s)
 | 0=>⟨fun _ _ h=>(by cases h),fun _ _ h=>(by cases h)⟩
 | n+1=>by
  obtain⟨i1,i2⟩:=sels_narg n;refine⟨fun l a h=>?_,fun s a h=>?_⟩
  ·rw [r08_selsRight_qn] at h;cases hc:(((decide (((l.l.length:Nat):Int)=(0:Int)))||(decide ((64:Int)<((l.l.length:Nat):Int))))||(decide ((24:Int)<a)))
   ·rw [hc,cond_false] at h;obtain⟨o,h1,h2⟩:=Option.bind_eq_some_iff.1 h;have ho:o=Sum.inl ():=by
     have loop:∀(t:List TSel) (o:Unit ⊕ Bool),r08_selsRight_q10 a (Z47_qn n) t=some o->o=Sum.inl ()\/o=Sum.inr false:=by
      intro t;induction t with
      | nil=>intro o h; cases h; exact .inl rfl
      | cons x r ih =>
       intro o h;rw [r08_selsRight_q10] at h;simp only [Ab.on] at h;obtain⟨b,-,h⟩:=Option.bind_eq_some_iff.1 h;cases b
       ·cases h; exact .inr rfl
       ·exact ih o h
     rcases loop _ _ h1 with h|h
     ·exact h
     ·rw [h] at h2; cases h2
    subst ho;have loop:∀t:List TSel,r08_selsRight_q10 a (Z47_qn n) t=some (Sum.inl ())->∀x∈t,NArg x:=by
     intro t;induction t with
     | nil=>intro _ x hx; cases hx
     | cons x r ih =>
      intro h y hy;rw [r08_selsRight_q10] at h;simp only [Ab.on] at h;obtain⟨b,hb,h⟩:=Option.bind_eq_some_iff.1 h;cases b
      ·cases h
      ·rcases List.mem_cons.1 hy with rfl|hy
       ·exact i2 _ _ hb
       ·exact ih h y hy
    exact loop _ h1
   ·rw [hc] at h; cases h
  ·rw [Z47_qn] at h;obtain⟨x4,-,h⟩:=Option.bind_eq_some_iff.1 h;cases x4
   ·simp [guardO] at h
   ·simp only [guardO,Bool.not_true,Bool.not_false,if_true] at h;obtain⟨x5,-,h⟩:=Option.bind_eq_some_iff.1 h;cases x5
    ·simp at h
    ·simp only [Bool.not_true,Bool.or_self,cond_false] at h;by_cases h1:s.FKind=1
     ·rw [decide_eq_true h1,cond_true] at h;simp only [Ab.on] at h;refine⟨s,fun e=>by omega, ?_⟩;by_cases hz:s.FSels.l=[]
      ·rw [hz]; intro _ hx; cases hx
      ·have hl:decide (((s.FSels.l.length:Nat):Int)=(0:Int))=false:=decide_eq_false fun e=>hz (List.length_eq_zero_iff.1 (by omega));rw [hl] at h;generalize ((Z25_q s.FName&&(s.FAlias==([]:Bs)||bif Z25_q s.FName&&!(s.FAlias==([]:Bs)) then Z25_q s.FAlias else false))&&s.FOn==([]:Bs))=g at h;cases g
       ·simp at h
       ·simp only [Bool.not_false,Bool.and_self,if_true] at h;obtain⟨a2,-,h⟩:=Option.bind_eq_some_iff.1 h;obtain⟨b,hb,h⟩:=Option.bind_eq_some_iff.1 h;have:b=true:=by simpa using h
        subst this;exact i1 _ _ hb
     ·rw [decide_eq_false h1,cond_false] at h;by_cases h2:s.FKind=2
      ·rw [decide_eq_true h2,cond_true] at h;simp only [Ab.on,Option.some.injEq,Bool.and_eq_true,decide_eq_true_eq] at h;have ha:s.FArgs.l=[]:=List.length_eq_zero_iff.1 (by omega);have hs:s.FSels.l=[]:=List.length_eq_zero_iff.1 (by omega);exact⟨s,fun _=>ha,by rw [hs]; intro _ hx; cases hx⟩
      ·rw [decide_eq_false h2,cond_false] at h;by_cases h3:s.FKind=3
       ·rw [decide_eq_true h3,cond_true] at h;simp only [Ab.on] at h;generalize ((s.FName==([]:Bs)&&s.FAlias==([]:Bs))&&(s.FOn==([]:Bs)||bif (s.FName==([]:Bs)&&s.FAlias==([]:Bs))&&!(s.FOn==([]:Bs)) then Z25_q s.FOn else false))=g at h;cases g
        ·simp at h
        ·by_cases hz:s.FArgs.l=[]
         ·rw [hz] at h;simp only [List.length_nil,decide_true,Bool.and_self,if_true,Int.natCast_zero] at h;obtain⟨a2,-,h⟩:=Option.bind_eq_some_iff.1 h;obtain⟨b,hb,h⟩:=Option.bind_eq_some_iff.1 h;have:b=true:=by simpa using h
          subst this;exact⟨s,fun _=>hz,i1 _ _ hb⟩
         ·have hl:decide (((s.FArgs.l.length:Nat):Int)=(0:Int))=false:=decide_eq_false fun e=>hz (List.length_eq_zero_iff.1 (by omega));rw [hl] at h;simp at h
       ·rw [decide_eq_false h3] at h;cases h
theorem fits_facts {d:TDoc}{q:Z6}(h:Z24_q d q=some true):Z87_q q=some false/\Z43_q q=some true:=by
 unfold Z24_q at h;obtain⟨x3,e3,h⟩:=Option.bind_eq_some_iff.1 h;cases x3
 ·simp only [guardO,Bool.not_false,if_true] at h;obtain⟨x4,e4,h⟩:=Option.bind_eq_some_iff.1 h;cases x4
  ·simp only [Bool.not_false,Bool.and_self,if_true] at h;obtain⟨x5,e5,h⟩:=Option.bind_eq_some_iff.1 h;cases x5
   ·simp at h
   ·exact⟨e4,e5⟩
  ·simp at h
 ·simp [guardO] at h
theorem right_ops:∀l:List TOp,Z43_q30 l=some (Sum.inl ())->∀x∈l,r08_selsRight_q x.FSels 1=some true
 | [],_,_,h=>by cases h
 | a::r,h,x,hx=>by
  rw [Z43_q30] at h;simp only [Ab.on] at h;generalize ((decide (a.FKind<(1:Int))||decide ((3:Int)<a.FKind))||(!(a.FName==([]:Bs))&&!(bif (!(decide (a.FKind<(1:Int))||decide ((3:Int)<a.FKind))&&!(a.FName==([]:Bs))) then Z25_q a.FName else false)))=g at h;cases g
  ·simp only [guardO,Bool.not_false,if_true] at h;obtain⟨x1,-,h⟩:=Option.bind_eq_some_iff.1 h;cases x1
   ·simp at h
   ·simp only [Bool.not_true,Bool.or_self,Bool.not_false,if_true] at h;obtain⟨x2,e2,h⟩:=Option.bind_eq_some_iff.1 h;cases x2
    ·simp at h
    ·rcases List.mem_cons.1 hx with rfl|hx
     ·exact e2
     ·exact right_ops r h x hx
  ·simp [guardO] at h
theorem right_frags:∀l:List Z3,Z43_q14 l=some (Sum.inl ())->∀x∈l,r08_selsRight_q x.FSels 1=some true
 | [],_,_,h=>by cases h
 | a::r,h,x,hx=>by
  rw [Z43_q14] at h;simp only [Ab.on] at h;generalize (!(Z48_q a.FName)||!(bif !(!(Z48_q a.FName)) then Z25_q a.FOn else false))=g at h;cases g
  ·simp only [guardO,Bool.not_false,if_true] at h;obtain⟨x2,e2,h⟩:=Option.bind_eq_some_iff.1 h;cases x2
   ·simp at h
   ·rcases List.mem_cons.1 hx with rfl|hx
    ·exact e2
    ·exact right_frags r h x hx
  ·simp [guardO] at h
theorem qv_of {q:Z6}(hs:q.sz<=1048576) (h1:Z87_q q=some false) (h2:Z43_q q=some true):QV q:=by
 obtain⟨-,a1,a2,-⟩:=QOkV.of hs;have hl:q.FOps.l.length<=8/\q.FFrags.l.length<=12:=by
  unfold Z87_q at h1;cases hc:(decide ((8:Int)<((q.FOps.l.length:Nat):Int))||decide ((12:Int)<((q.FFrags.l.length:Nat):Int)))
  ·simp only [Bool.or_eq_false_iff,decide_eq_false_iff_not] at hc;omega
  ·rw [hc] at h1; cases h1
 unfold Z43_q at h2;obtain⟨n,-,h2⟩:=Option.bind_eq_some_iff.1 h2;cases hc:((decide (n<(1:Int)))||(decide ((64:Int)<n)))
 ·rw [hc,cond_false] at h2;obtain⟨o,e1,h2⟩:=Option.bind_eq_some_iff.1 h2;have hor:∀(l:List TOp) (o:Unit ⊕ Bool),Z43_q30 l=some o->o=Sum.inl ()\/o=Sum.inr false:=by
   intro l;induction l with
   | nil=>intro o h; cases h; exact .inl rfl
   | cons a r ih =>
    intro o h;rw [Z43_q30] at h;simp only [Ab.on] at h;generalize ((decide (a.FKind<(1:Int))||decide ((3:Int)<a.FKind))||(!(a.FName==([]:Bs))&&!(bif (!(decide (a.FKind<(1:Int))||decide ((3:Int)<a.FKind))&&!(a.FName==([]:Bs))) then Z25_q a.FName else false)))=g at h;cases g
    ·simp only [guardO,Bool.not_false,if_true] at h;obtain⟨x1,-,h⟩:=Option.bind_eq_some_iff.1 h;cases x1
     ·simp at h; exact .inr h.symm
     ·simp only [Bool.not_true,Bool.or_self,Bool.not_false,if_true] at h;obtain⟨x2,e2,h⟩:=Option.bind_eq_some_iff.1 h;cases x2
      ·simp at h; exact .inr h.symm
      ·exact ih o h
    ·simp [guardO] at h; exact .inr h.symm
  have hof:∀(l:List Z3) (o:Unit ⊕ Bool),Z43_q14 l=some o->o=Sum.inl ()\/o=Sum.inr false:=by
   intro l;induction l with
   | nil=>intro o h; cases h; exact .inl rfl
   | cons a r ih =>
    intro o h;rw [Z43_q14] at h;simp only [Ab.on] at h;generalize (!(Z48_q a.FName)||!(bif !(!(Z48_q a.FName)) then Z25_q a.FOn else false))=g at h;cases g
    ·simp only [guardO,Bool.not_false,if_true] at h;obtain⟨x2,e2,h⟩:=Option.bind_eq_some_iff.1 h;cases x2
     ·simp at h; exact .inr h.symm
     ·exact ih o h
    ·simp [guardO] at h; exact .inr h.symm
  rcases hor _ _ e1 with rfl|rfl
  ·simp only [Ab.on] at h2;obtain⟨o2,e2,h2⟩:=Option.bind_eq_some_iff.1 h2;rcases hof _ _ e2 with rfl|rfl
   ·exact⟨hl.2,hl.1,a2,a1,fun f hf=>(sels_narg F0).1 _ _ (right_frags _ e2 f hf),fun f hf=>(sels_narg F0).1 _ _ (right_ops _ e1 f hf)⟩
   ·cases h2
  ·cases h2
 ·rw [hc] at h2; cases h2
end Go.Proofs

namespace Go.Proofs
open Go Go.Ab
def Sup (o o':Sl Bs) (G:(Bs->Prop)->Prop):Prop:=(∀x∈o.l,x∈o'.l)/\∀P:Bs->Prop,(∀x∈o'.l,P x)->G P
theorem Sup.trans {a b c:Sl Bs}{G G' R:(Bs->Prop)->Prop}(h:Sup a b G) (h':Sup b c G') (hr:∀P,G P->G' P->R P):Sup a c R :=
 ⟨fun x hx=>h'.1 x (h.1 x hx),fun P hP=>hr P (h.2 P fun x hx=>hP x (h'.1 x hx)) (h'.2 P hP)⟩
theorem Sup.mono {a b:Sl Bs}{G R:(Bs->Prop)->Prop}(h:Sup a b G) (hr:∀P,G P->R P):Sup a b R:=⟨h.1,fun P hP=>hr P (h.2 P hP)⟩
theorem Sup.refl (a:Sl Bs){G:(Bs->Prop)->Prop}(hr:∀P,G P):Sup a a G:=⟨fun _ h=>h,fun P _=>hr P⟩
theorem appS {α:Type}{n:Nat}{a b c:Sl α}(h:appC n a b=some c):c.l=a.l++b.l:=by
 unfold appC at h
 split at h
 ·cases h; rfl
 ·cases h
theorem uses_sup:∀(n:Nat) (v:Z7) (o o':Sl Bs),Z149_qn n v o=some o'->Sup o o' fun P=>GVal P v
 | 0,_,_,_,h=>by cases h
 | n+1,v,o,o',h=>by
  have loop:∀(l:List Z7) (o o':Sl Bs),Z149_q15 (Z149_qn n) l o=some o'->Sup o o' fun P=>∀x∈l,GVal P x:=by
   intro l;induction l with
   | nil=>intro o o' h; rw [Z149_q15] at h; cases h; exact Sup.refl _ fun _ _ h=>by cases h
   | cons a r ih =>
    intro o o' h;rw [Z149_q15] at h;simp only [Ab.on] at h;obtain⟨o1,h1,h2⟩:=Option.bind_eq_some_iff.1 h;exact(uses_sup n a o o1 h1).trans (ih o1 o' h2) fun P h1 h2=>all_cons h1 h2
  rw [Z149_qn] at h;by_cases h7:v.FKind=7
  ·rw [decide_eq_true h7,cond_true] at h;obtain⟨o1,h1,h2⟩:=Option.bind_eq_some_iff.1 h;cases h2;have e:=appS h1;exact⟨fun x hx=>by rw [e]; exact List.mem_append_left _ hx,fun P hP=>.mk v (fun _=>hP _ (by rw [e]; simp)) fun h=>by omega⟩
  ·rw [decide_eq_false h7,cond_false] at h;simp only [Ab.on] at h;by_cases h5:v.FKind=5\/v.FKind=6
   ·rw [show (bif decide (v.FKind=5) then decide (v.FKind=5) else decide (v.FKind=6))=true by rcases h5 with h|h<;>simp [h],cond_true] at h;obtain⟨o2,k2,h2⟩:=Option.bind_eq_some_iff.1 h;cases h2;obtain⟨o3,k3,h3⟩:=Option.bind_eq_some_iff.1 k2;cases h3;exact(loop _ _ _ k3).mono fun P hP=>.mk v (fun e=>absurd e h7) fun _=>hP
   ·rw [show (bif decide (v.FKind=5) then decide (v.FKind=5) else decide (v.FKind=6))=false by
     have h1:¬v.FKind=5:=fun e=>h5 (.inl e);have h2:¬v.FKind=6:=fun e=>h5 (.inr e);simp [h1,h2],cond_false,Option.bind_some] at h
    cases h;exact Sup.refl _ fun P=>.mk v (fun e=>absurd e h7) fun e=>absurd e h5
theorem wargs_sup:∀(l:List TArg) (o o':Sl Bs),Z150_q63 l o=some o'->Sup o o' fun P=>GArgs P l
 | [],o,o',h=>by rw [Z150_q63] at h; cases h; exact Sup.refl _ fun _ _ h=>by cases h
 | a::r,o,o',h=>by
  rw [Z150_q63] at h;simp only [Ab.on] at h;obtain⟨o1,h1,h2⟩:=Option.bind_eq_some_iff.1 h;exact(uses_sup F0 a.FValue o o1 h1).trans (wargs_sup r o1 o' h2) fun P h1 h2=>all_cons h1 h2
theorem wdargs_sup:∀(l:List TArg) (o o':Sl Bs),Z150_q51 l o=some o'->Sup o o' fun P=>GArgs P l
 | [],o,o',h=>by rw [Z150_q51] at h; cases h; exact Sup.refl _ fun _ _ h=>by cases h
 | a::r,o,o',h=>by
  rw [Z150_q51] at h;simp only [Ab.on] at h;obtain⟨o1,h1,h2⟩:=Option.bind_eq_some_iff.1 h;exact(uses_sup F0 a.FValue o o1 h1).trans (wdargs_sup r o1 o' h2) fun P h1 h2=>all_cons h1 h2
theorem wdirs_sup:∀(l:List TDir) (o o':Sl Bs),Z150_q39 l o=some o'->Sup o o' fun P=>GDirs P l
 | [],o,o',h=>by rw [Z150_q39] at h; cases h; exact Sup.refl _ fun _ _ h=>by cases h
 | a::r,o,o',h=>by
  rw [Z150_q39] at h;simp only [Ab.on] at h;obtain⟨o1,h1,h2⟩:=Option.bind_eq_some_iff.1 h;exact(wdargs_sup a.FArgs.l o o1 h1).trans (wdirs_sup r o1 o' h2) fun P h1 h2=>all_cons h1 h2
def WS (q:Z6) (l:List TSel) (o:Sl Bs) (sp:List Bs) (o':Sl Bs) (sp':List Bs):Prop :=
 (∀x∈o.l,x∈o'.l)/\(∀x∈sp,x∈sp')/\∀P:Bs->Prop,(∀x∈o'.l,P x)->(∀x∈l,GSel P x)/\∀s∈sp',s∈sp\/∀x∈(fndG q.FFrags.l s).1.FSels.l,GSel P x
theorem walk_sup (q:Z6):∀(n:Nat) (l:Sl TSel) (o:Sl Bs) (sp:List Bs) (o':Sl Bs) (sp':List Bs),Z150_qn n q l sp o=some (o',sp')->WS q l.l o sp o' sp'
 | 0,_,_,_,_,_,h=>by cases h
 | n+1,l,o,sp,o',sp',h=>by
  have loop:∀(t:List TSel) (o:Sl Bs) (sp:List Bs) (o':Sl Bs) (sp':List Bs),Z150_q8 q (Z150_qn n) t o sp=some (o',sp')->WS q t o sp o' sp':=by
   intro t;induction t with
   | nil=>intro o sp o' sp' h; rw [Z150_q8] at h; cases h; exact⟨fun _ h=>h,fun _ h=>h,fun _ _=>⟨fun _ h=>(by cases h),fun _ h=>.inl h⟩⟩
   | cons h r ih =>
    intro o sp o' sp' h1;rw [Z150_q8] at h1;simp only [Ab.on,ffind_eq] at h1;obtain⟨o1,e1,h1⟩:=Option.bind_eq_some_iff.1 h1;obtain⟨o2,e2,h1⟩:=Option.bind_eq_some_iff.1 h1;obtain⟨⟨o3,sp3⟩,k1,h1⟩:=Option.bind_eq_some_iff.1 h1;have q1:=wargs_sup _ _ _ e1;have q2:=wdirs_sup _ _ _ e2;obtain⟨t1,t2,t3⟩:=ih o3 sp3 o' sp' h1;have hd:(∀x∈o2.l,x∈o3.l)/\(∀x∈sp,x∈sp3)/\∀P:Bs->Prop,(∀x∈o3.l,P x)->(h.FKind≠2->∀x∈h.FSels.l,GSel P x)/\∀s∈sp3,s∈sp\/∀x∈(fndG q.FFrags.l s).1.FSels.l,GSel P x:=by
     by_cases hk:h.FKind=2
     ·rw [decide_eq_true hk,cond_true] at k1;cases hc:(!(fndG q.FFrags.l h.FName).2||sp.contains h.FName)
      ·rw [hc,cond_false] at k1;obtain⟨⟨o4,sp4⟩,m1,k1⟩:=Option.bind_eq_some_iff.1 k1;cases k1;obtain⟨u1,u2,u3⟩:=walk_sup q n _ _ _ _ _ m1;refine⟨u1,fun x hx=>u2 x ((insS_mem' _ _ _).2 (.inl hx)),fun P hP=>⟨fun e=>absurd hk e,fun s hs=>?_⟩⟩;obtain⟨v1,v2⟩:=u3 P hP;rcases v2 s hs with hx|hx
       ·rcases (insS_mem' _ _ _).1 hx with hx|rfl
        ·exact .inl hx
        ·exact .inr v1
       ·exact .inr hx
      ·rw [hc,cond_true] at k1;cases k1;exact⟨fun _ h=>h,fun _ h=>h,fun _ _=>⟨fun e=>absurd hk e,fun _ h=>.inl h⟩⟩
     ·rw [decide_eq_false hk,cond_false] at k1;obtain⟨⟨o4,sp4⟩,m1,k1⟩:=Option.bind_eq_some_iff.1 k1;cases k1;obtain⟨u1,u2,u3⟩:=walk_sup q n _ _ _ _ _ m1;exact⟨u1,u2,fun P hP=>⟨fun _=>(u3 P hP).1,(u3 P hP).2⟩⟩
    obtain⟨d1,d2,d3⟩:=hd;refine⟨fun x hx=>t1 x (d1 x (q2.1 x (q1.1 x hx))),fun x hx=>t2 x (d2 x hx),fun P hP=>?_⟩;have p3:∀x∈o3.l,P x:=fun x hx=>hP x (t1 x hx);have p2:∀x∈o2.l,P x:=fun x hx=>p3 x (d1 x hx);obtain⟨d4,d5⟩:=d3 P p3;obtain⟨t4,t5⟩:=t3 P hP;refine⟨all_cons (.mk h (q2.2 P p2) (fun _ _=>q1.2 P fun x hx=>p2 x (q2.1 x hx)) d4) t4,fun s hs=>?_⟩;rcases t5 s hs with hx|hx
    ·exact d5 s hx
    ·exact .inr hx
  rw [Z150_qn] at h;simp only [Ab.on] at h;obtain⟨⟨o3,sp3⟩,k1,h⟩:=Option.bind_eq_some_iff.1 h;cases h;exact loop _ _ _ _ _ k1
theorem fold_mem2:∀(l a:List Bs) (y:Bs),y∈a\/y∈l->y∈l.foldl addU a
 | [],_,_,h=>h.elim id fun h=>by cases h
 | x::r,a,y,h=>by
  refine fold_mem2 r (addU a x) y ?_;have h1:∀z,z∈a\/z=x->z∈addU a x:=by
   intro z hz;unfold addU;cases hc:a.contains x
   ·simpa [or_comm] using hz
   ·have:x∈a:=by simpa using hc
    rcases hz with hz|rfl
    ·exact hz
    ·exact this
  rcases h with h|h
  ·exact .inl (h1 y (.inl h))
  ·rcases List.mem_cons.1 h with h|h
   ·exact .inl (h1 y (.inr h))
   ·exact .inr h
theorem mem_dd {l:List Bs}{y:Bs}(h:y∈l):y∈dd l:=fold_mem2 l [] y (.inr h)
theorem used_both {q:Z6}(hq:QV q){i:Nat}{o:TOp}(ho:q.FOps.l[i]?=some o):∃(u w:Sl Bs) (sp:List Bs),Z150_qn F0 q o.FSels [] Sl.nil=some (w,sp)/\Z141_q q (i:Int)=some u/\u.l=dd w.l/\GW q o.FSels.l sp (·∈u.l):=by
 obtain⟨u,w,sp,e1,e2,e3,-⟩:=used_told hq ho;obtain⟨-,-,h⟩:=walk_sup q F0 _ _ _ _ _ e1;obtain⟨h1,h2⟩:=h (·∈u.l) fun x hx=>by rw [e3]; exact mem_dd hx
 exact⟨u,w,sp,e1,e2,e3,h1,fun s hs=>(h2 s hs).elim (fun h=>by cases h) id⟩
end Go.Proofs

namespace Go.Proofs
open Go Go.Ab
structure Ad (c c1 c' c1':Z8):Prop where
 fd:c1.Fd=c.Fd
 fv:c1.Fvars=c.Fvars
 fd':c1'.Fd=c'.Fd
 fv':c1'.Fvars=c'.Fvars
 out:∃l,c1.Fout.l=c.Fout.l++l/\c1'.Fout.l=c'.Fout.l++l
theorem Ad.refl (c c':Z8):Ad c c c' c':=⟨rfl,rfl,rfl,rfl,[],by simp,by simp⟩
theorem Ad.trans {c c1 c2 c' c1' c2':Z8}(h:Ad c c1 c' c1') (g:Ad c1 c2 c1' c2'):Ad c c2 c' c2':=by
 obtain⟨l,e1,e2⟩:=h.out;obtain⟨m,e3,e4⟩:=g.out;exact⟨g.fd.trans h.fd,g.fv.trans h.fv,g.fd'.trans h.fd',g.fv'.trans h.fv',l++m,by rw [e3,e1,List.append_assoc],by rw [e4,e2,List.append_assoc]⟩
def AO (o o':Option Z8) (c c':Z8):Prop:=∀c1 c1',o=some c1->o'=some c1'->Ad c c1 c' c1'
theorem AO.pure (c c':Z8):AO (some c) (some c') c c':=fun _ _ h h'=>by cases h; cases h'; exact Ad.refl _ _
theorem AO.bind {o o':Option Z8}{f f':Z8->Option Z8}{c c':Z8}(h:AO o o' c c') (hf:∀c1 c1',Ad c c1 c' c1'->AO (f c1) (f' c1') c1 c1'):AO (o.bind f) (o'.bind f') c c':=fun c2 c2' h2 h2'=>by
 obtain⟨c1,e,h2⟩:=Option.bind_eq_some_iff.1 h2;obtain⟨c1',e',h2'⟩:=Option.bind_eq_some_iff.1 h2';have a:=h c1 c1' e e';exact a.trans (hf c1 c1' a c2 c2' h2 h2')
theorem AO.map {o o':Option Z8}{c c':Z8}(h:AO o o' c c'):AO (o.bind fun x=>some x) (o'.bind fun x=>some x) c c':=h.bind fun c1 c1' _=>AO.pure c1 c1'
theorem AO.bindT {α:Type}{o:Option α}{f f':α->Option Z8}{c c':Z8}(hf:∀x,AO (f x) (f' x) c c'):AO (o.bind f) (o.bind f') c c':=by
 cases o with
 | none=>intro _ _ h _; cases h
 | some x=>exact hf x
theorem AO.guard {α:Type}{b:Bool}{o o':Option α}{d:α}{f f':α->Option Z8}{c c':Z8}(e:b=true->o'=o) (hf:∀x,AO (f x) (f' x) c c'):AO (guardO b o d f) (guardO b o' d f') c c':=by
 cases b
 ·exact hf d
 ·rw [e rfl]; exact AO.bindT hf
theorem AO.cond {b:Bool}{x x' y y':Option Z8}{c c':Z8}(h1:b=true->AO x x' c c') (h2:b=false->AO y y' c c'):AO (bif b then x else y) (bif b then x' else y') c c':=by
 cases b
 ·exact h2 rfl
 ·exact h1 rfl
theorem add_ao (c c':Z8) (b:Bool) (e:Int) (s:Bs):AO (Z142_q c b e s) (Z142_q c' b e s) c c':=by
 unfold Z142_q;refine AO.cond (fun _ c1 c1' h h'=>?_) fun _=>AO.pure c c';obtain⟨z,e1,h⟩:=Option.bind_eq_some_iff.1 h;obtain⟨z',e1',h'⟩:=Option.bind_eq_some_iff.1 h';cases h; cases h';exact⟨rfl,rfl,rfl,rfl,[Z1.mk e s],appS e1,appS e1'⟩
structure Lk (P:Bs->Prop) (c c':Z8):Prop where
 fd:c'.Fd=c.Fd
 fv:c'.Fvars.l=c.Fvars.l\/∃z,c'.Fvars.l=c.Fvars.l++[z]/\∀s,P s->(z.FName==s)=false
theorem Lk.ad {P:Bs->Prop}{c c' c1 c1':Z8}(h:Lk P c c') (a:Ad c c1 c' c1'):Lk P c1 c1':=⟨by rw [a.fd',a.fd,h.fd],by rw [a.fv',a.fv]; exact h.fv⟩
theorem index_snoc {f:TVar->Bool}{z:TVar}(hz:f z=false):∀(l:List TVar) (n:Nat),Z119_q6 f (l++[z]) n=Z119_q6 f l n
 | [],n=>by
  simp [Z119_q6,Ab.on,hz]
 | a::r,n=>by
  rw [List.cons_append,Z119_q6,Z119_q6];simp only [Ab.on];cases f a
  ·rw [cond_false,cond_false]; exact index_snoc hz r (n+1)
  ·rfl
theorem Lk.index {P:Bs->Prop}{c c':Z8}(h:Lk P c c'){v:Z7}(hv:P v.FText) :
  Z119_q c'.Fvars (fun y0=>Z148_q y0 v)=Z119_q c.Fvars (fun y0=>Z148_q y0 v):=by
 unfold Z119_q;rcases h.fv with e|⟨z,e,hz⟩
 ·rw [e]
 ·rw [e,index_snoc (hz _ hv)]
theorem Lk.at {P:Bs->Prop}{c c':Z8}(h:Lk P c c'){i:Nat}(hi:i<c.Fvars.l.length):idxC c'.Fvars.l (i:Int)=idxC c.Fvars.l (i:Int):=by
 unfold idxC;rcases h.fv with e|⟨z,e,-⟩
 ·rw [e]
 ·rw [e,Int.toNat_natCast,List.getElem?_append_left hi]
theorem value_ao {P:Bs->Prop}:∀(n:Nat) (c c':Z8) (v:Z7) (t:TRef) (known:Bool) (at_:Bs),Lk P c c'->GVal P v->AO (Z147_qn n c v t known at_) (Z147_qn n c' v t known at_) c c'
 | 0,_,_,_,_,_,_,_,_=>fun _ _ h=>by cases h
 | n+1,c,c',v,t,known,at_,hl,hg=>by
  rw [Z147_qn,Z147_qn];refine AO.cond (fun h7=>?_) fun h7=>AO.cond (fun h5=>?_) fun h5=>AO.cond (fun h6=>?_) fun _=>AO.pure c c'
  ·simp only [Ab.on];rw [hl.index (hg.text (of_decide_eq_true h7)),hl.fd];refine AO.guard (fun hb=>?_) fun x7=>AO.guard (fun _=>rfl) fun x8=>(add_ao c c' _ _ _).map;rcases indexF_eq c.Fvars (fun y0=>Z148_q y0 v) with ⟨i,hi,e1,-⟩|⟨e1,-⟩
   ·rw [e1,show (if (0:Int)>(i:Int) then(0:Int) else(i:Int))=(i:Int) from if_neg (by omega)];exact hl.at hi
   ·rw [e1] at hb; cases known<;>cases hb
  ·refine AO.bindT fun x13=>AO.map ?_;have loop:∀(l:List Z7) (c c':Z8),Lk P c c'->(∀x∈l,GVal P x)->AO (Z147_q16 known at_ x13 (Z147_qn n) l c) (Z147_q16 known at_ x13 (Z147_qn n) l c') c c':=by
    intro l;induction l with
    | nil=>intro c c' _ _; exact AO.pure c c'
    | cons a r ih =>
     intro c c' hl hg;rw [Z147_q16,Z147_q16];simp only [Ab.on];exact(value_ao n c c' a _ _ _ hl (hg a (.head _))).bind fun c1 c1' a=>ih c1 c1' (hl.ad a) fun x hx=>hg x (.tail _ hx)
   exact loop _ c c' hl (hg.items (.inl (of_decide_eq_true h5)))
  ·simp only [Ab.on];rw [hl.fd];generalize Z105_q c.Fd t.FName=x29;refine AO.map ?_;have loop:∀(l:List Z7) (i:Nat) (c c':Z8),Lk P c c'->(∀x∈l,GVal P x)->AO (Z147_q33 v known at_ x29 (Z147_qn n) l i c) (Z147_q33 v known at_ x29 (Z147_qn n) l i c') c c':=by
    intro l;induction l with
    | nil=>intro i c c' _ _; exact AO.pure c c'
    | cons a r ih =>
     intro i c c' hl hg;rw [Z147_q33,Z147_q33];simp only [Ab.on];refine AO.bindT fun z=>(value_ao n c c' a _ _ _ hl (hg a (.head _))).bind fun c1 c1' a=>ih (i+1) c1 c1' (hl.ad a) fun x hx=>hg x (.tail _ hx)
   exact loop _ 0 c c' hl (hg.items (.inr (of_decide_eq_true h6)))
theorem dargs_ao {P:Bs->Prop}(at_:Bs) (x12:TDir):∀(l:List TArg) (c c':Z8),Lk P c c'->GArgs P l->AO (Z145_q15 at_ x12 l c) (Z145_q15 at_ x12 l c') c c'
 | [],c,c',_,_=>AO.pure c c'
 | a::r,c,c',hl,hg=>by
  rw [Z145_q15,Z145_q15];simp only [Ab.on];exact AO.bindT fun t=>(value_ao F0 c c' a.FValue _ _ _ hl (hg a (.head _))).bind fun c1 c1' ad=>dargs_ao at_ x12 r c1 c1' (hl.ad ad) fun x hx=>hg x (.tail _ hx)
theorem dirs_loop_ao {P:Bs->Prop}(at_:Bs):∀(l:List TDir) (c c':Z8),Lk P c c'->GDirs P l->AO (Z145_q3 at_ l c) (Z145_q3 at_ l c') c c'
 | [],c,c',_,_=>AO.pure c c'
 | a::r,c,c',hl,hg=>by
  rw [Z145_q3,Z145_q3];simp only [Ab.on];exact(dargs_ao at_ a a.FArgs.l c c' hl (hg a (.head _))).bind fun c1 c1' ad=>dirs_loop_ao at_ r c1 c1' (hl.ad ad) fun x hx=>hg x (.tail _ hx)
theorem dirs_ao {P:Bs->Prop}{c c':Z8}(hl:Lk P c c') (s:Sl TDir) (hg:GDirs P s.l) (at_:Bs):AO (Z145_q c s at_) (Z145_q c' s at_) c c':=by
 unfold Z145_q;exact(dirs_loop_ao at_ s.l c c' hl hg).map
theorem fargs_ao {P:Bs->Prop}(at_:Bs) (f:Z2):∀(l:List TArg) (c c':Z8),Lk P c c'->GArgs P l->AO (Z146_q18 at_ f l c) (Z146_q18 at_ f l c') c c'
 | [],c,c',_,_=>AO.pure c c'
 | a::r,c,c',hl,hg=>by
  rw [Z146_q18,Z146_q18];simp only [Ab.on];exact(value_ao F0 c c' a.FValue _ _ _ hl (hg a (.head _))).bind fun c1 c1' ad=>fargs_ao at_ f r c1 c1' (hl.ad ad) fun x hx=>hg x (.tail _ hx)
def SelsA (P:Bs->Prop) (n:Nat):Prop:=∀(c c':Z8) (l:Sl TSel) (on_ at_:Bs),Lk P c c'->(∀x∈l.l,GSel P x)->AO (vars_checker_sels_qn n c l on_ at_) (vars_checker_sels_qn n c' l on_ at_) c c'
def FieldA (P:Bs->Prop) (n:Nat):Prop:=∀(c c':Z8) (s:TSel) (on_ at_:Bs),s.FKind≠2->s.FKind≠3->Lk P c c'->GSel P s->AO (Z146_qn n c s on_ at_) (Z146_qn n c' s on_ at_) c c'
theorem field_stepA {P:Bs->Prop}{n:Nat}(h:SelsA P n):FieldA P (n+1):=by
 intro c c' s on_ at_ h2 h3 hl hg;obtain⟨g1,g2,g3⟩:GDirs P s.FDirs.l/\(s.FKind≠2->s.FKind≠3->GArgs P s.FArgs.l)/\(s.FKind≠2->∀x∈s.FSels.l,GSel P x):=by cases hg with|mk _ a b c=>exact⟨a,b,c⟩
 rw [Z146_qn,Z146_qn];simp only [Ab.on];rw [hl.fd];refine AO.bindT fun x6=>AO.bindT fun x7=>?_;exact(fargs_ao x7 _ s.FArgs.l c c' hl (g2 h2 h3)).bind fun c1 c1' a1=>(dirs_ao (hl.ad a1) s.FDirs g1 x7).bind fun c2 c2' a2=>(h c2 c2' s.FSels _ x7 ((hl.ad a1).ad a2) (g3 h2)).map
theorem sels_stepA {P:Bs->Prop}{n:Nat}(h:SelsA P n) (hf:FieldA P n):SelsA P (n+1):=by
 intro c c' l on_ at_ hl hg;have loop:∀(t:List TSel) (c c':Z8),Lk P c c'->(∀x∈t,GSel P x)->AO (vars_checker_sels_q3 on_ at_ (vars_checker_sels_qn n) (Z146_qn n) t c) (vars_checker_sels_q3 on_ at_ (vars_checker_sels_qn n) (Z146_qn n) t c') c c':=by
  intro t;induction t with
  | nil=>intro c c' _ _; exact AO.pure c c'
  | cons s r ih =>
   intro c c' hl hg;rw [vars_checker_sels_q3,vars_checker_sels_q3];simp only [Ab.on];have hs:=hg s (.head _);obtain⟨g1,g2,g3⟩:GDirs P s.FDirs.l/\(s.FKind≠2->s.FKind≠3->GArgs P s.FArgs.l)/\(s.FKind≠2->∀x∈s.FSels.l,GSel P x):=by cases hs with|mk _ a b c=>exact⟨a,b,c⟩
   refine AO.bind ?_ fun c1 c1' a1=>ih c1 c1' (hl.ad a1) fun x hx=>hg x (.tail _ hx);refine AO.cond (fun _=>(dirs_ao hl s.FDirs g1 at_).map) fun h2=>AO.cond (fun h3=>?_) fun h3=>?_
   ·exact(dirs_ao hl s.FDirs g1 at_).bind fun c1 c1' a1=>(h c1 c1' s.FSels _ at_ (hl.ad a1) (g3 (of_decide_eq_false h2))).map
   ·exact(hf c c' s on_ at_ (of_decide_eq_false h2) (of_decide_eq_false h3) hl hs).map
 rw [vars_checker_sels_qn,vars_checker_sels_qn];exact(loop l.l c c' hl hg).map
theorem sels_allA (P:Bs->Prop):∀n,SelsA P n/\FieldA P n
 | 0=>⟨(fun _ _ _ _ _ _ _ _ _ h=>by cases h),(fun _ _ _ _ _ _ _ _ _ _ _ h=>by cases h)⟩
 | n+1=>⟨sels_stepA (sels_allA P n).1 (sels_allA P n).2,field_stepA (sels_allA P n).1⟩
theorem sels_ao {P:Bs->Prop}{c c':Z8}(l:Sl TSel) (on_ at_:Bs) (hl:Lk P c c') (hg:∀x∈l.l,GSel P x):AO (vars_checker_sels_q c l on_ at_) (vars_checker_sels_q c' l on_ at_) c c':=(sels_allA P F0).1 c c' l on_ at_ hl hg
theorem vfrags_ao {P:Bs->Prop}{q q':Z6}(hq:q'.FFrags.l=q.FFrags.l):∀(l:List Bs) (c c':Z8),Lk P c c'->(∀n∈l,∀x∈(fndG q.FFrags.l n).1.FSels.l,GSel P x)->AO (Z139_q31 q l c) (Z139_q31 q' l c') c c'
 | [],c,c',_,_=>AO.pure c c'
 | n::r,c,c',hl,hg=>by
  rw [Z139_q31,Z139_q31];simp only [Ab.on,ffind_eq];rw [hq];exact(sels_ao _ _ _ hl (hg n (.head _))).bind fun c1 c1' a1=>vfrags_ao hq r c1 c1' (hl.ad a1) fun x hx=>hg x (.tail _ hx)
end Go.Proofs

namespace Go.Proofs
open Go Go.Ab
theorem walk_cong {q q':Z6}(hq:q'.FFrags.l=q.FFrags.l):∀(n:Nat) (l:Sl TSel) (sp:List Bs) (o:Sl Bs),Z150_qn n q' l sp o=Z150_qn n q l sp o
 | 0,_,_,_=>rfl
 | n+1,l,sp,o=>by
  have loop:∀(t:List TSel) (o:Sl Bs) (sp:List Bs),Z150_q8 q' (Z150_qn n) t o sp=Z150_q8 q (Z150_qn n) t o sp:=by
   intro t;induction t with
   | nil=>intro _ _; rfl
   | cons h r ih =>
    intro o sp;rw [Z150_q8,Z150_q8];simp only [Ab.on,ffind_eq,hq,walk_cong hq n,ih]
  rw [Z150_qn,Z150_qn,loop]
theorem visit_cong {q q':Z6}(hq:q'.FFrags.l=q.FFrags.l):∀(n:Nat) (l:Sl TSel) (s:Sl Bs),Z97_qn n q' l s=Z97_qn n q l s
 | 0,_,_=>rfl
 | n+1,l,s=>by
  have loop:∀(t:List TSel) (s:Sl Bs) (b:Bool),Z97_q8 q' (Z97_qn n) t s b=Z97_q8 q (Z97_qn n) t s b:=by
   intro t;induction t with
   | nil=>intro _ _; rfl
   | cons h r ih =>
    intro s b;rw [Z97_q8,Z97_q8];simp only [Ab.on,rfind_eq,hq,visit_cong hq n,ih]
  rw [Z97_qn,Z97_qn,loop]
theorem used_cong {q q':Z6}(hq:q'.FFrags.l=q.FFrags.l){i:Nat}{o o':TOp}(h:q.FOps.l[i]?=some o) (h':q'.FOps.l[i]?=some o') (hs:o'.FSels=o.FSels):Z141_q q' (i:Int)=Z141_q q (i:Int):=by
 have l1:=(List.getElem?_eq_some_iff.1 h).1;have l2:=(List.getElem?_eq_some_iff.1 h').1;have hidx:idxC q.FOps.l (i:Int)=some o:=by unfold idxC; rw [if_pos (by simp),Int.toNat_natCast,h]
 have hidx':idxC q'.FOps.l (i:Int)=some o':=by unfold idxC; rw [if_pos (by simp),Int.toNat_natCast,h']
 unfold Z141_q Z141;rw [show decide ((i:Int)<(0:Int))=false from decide_eq_false (by omega),show decide (((q.FOps.l.length:Nat):Int)<=(i:Int))=false from decide_eq_false (by omega),show decide (((q'.FOps.l.length:Nat):Int)<=(i:Int))=false from decide_eq_false (by omega),Bool.or_self,cond_false,cond_false,hidx,hidx',Option.bind_some,Option.bind_some,Z150_eq,Z150_eq,hs];unfold Z150_q;rw [walk_cong hq]
theorem q31_cong {q q':Z6}(hq:q'.FFrags.l=q.FFrags.l):∀(l:List Bs) (c:Z8),Z139_q31 q' l c=Z139_q31 q l c
 | [],_=>rfl
 | n::r,c=>by
  rw [Z139_q31,Z139_q31];simp only [Ab.on,ffind_eq,hq,q31_cong hq r]
theorem defs_ao (a1 a1':TOp) (u:Sl Bs) (hn:a1'.FName=a1.FName):∀(l:List TVar) (i:Nat) (c c':Z8),c'.Fd=c.Fd->(∀k,k<i+l.length->a1'.FVars.l.take k=a1.FVars.l.take k)->AO (Z143_q4 a1 u l i c) (Z143_q4 a1' u l i c') c c'
 | [],_,c,c',_,_=>AO.pure c c'
 | x::r,i,c,c',hd,ht=>by
  rw [Z143_q4,Z143_q4];simp only [Ab.on];rw [containsF_eq,containsF_eq];simp only;rw [ht i (by simp only [List.length_cons]; omega),hn];refine(add_ao c c' _ _ _).bind fun c1 c1' g1=>?_;have h1:c1'.Fd=c1.Fd:=by rw [g1.fd',g1.fd,hd]
  rw [h1];refine(add_ao c1 c1' _ _ _).bind fun c2 c2' g2=>?_;refine(add_ao c2 c2' _ _ _).bind fun c3 c3' g3=>?_;have h3:c3'.Fd=c3.Fd:=by rw [g3.fd',g3.fd,g2.fd',g2.fd,h1]
  rw [h3];refine AO.bind (AO.cond (fun _=>AO.bindT fun w=>(add_ao c3 c3' _ _ _).map) fun _=>AO.pure c3 c3') fun c4 c4' g4=>?_;refine(add_ao c4 c4' _ _ _).bind fun c5 c5' g5=>?_;exact defs_ao a1 a1' u hn r (i+1) c5 c5' (by rw [g5.fd',g5.fd,g4.fd',g4.fd,h3]) fun k hk=>ht k (by simp only [List.length_cons]; omega)
theorem defs_app (a1:TOp) (u:Sl Bs) (z:TVar):∀(l:List TVar) (i n:Nat) (c:Z8),i+l.length=n->Z143_q4 a1 u (l++[z]) i c=(Z143_q4 a1 u l i c).bind fun c1=>Z143_q4 a1 u [z] n c1
 | [],i,n,c,h=>by
  obtain rfl:i=n:=by simpa using h
  rfl
 | x::r,i,n,c,h=>by
  have ih:∀c,_:=fun c=>defs_app a1 u z r (i+1) n c (by simp only [List.length_cons] at h; omega);generalize (fun c1=>Z143_q4 a1 u [z] n c1)=T at ih ⊢;rw [List.cons_append];conv=>lhs; rw [Z143_q4]
  conv=>rhs; arg 1; rw [Z143_q4]
  simp only [Ab.on,Option.bind_assoc,ih]
def zzN:Bs:=[122,122]
theorem defs_one {o o':TOp}{z:TVar}{d:TDoc}{u:Sl Bs}(hn:o'.FName=o.FName) (hv:o'.FVars.l=o.FVars.l++[z]) (hz:z.FName=zzN) (hi:z.FType.FName=[73,110,116]) (hh:z.FHas=false) (hx:∀x∈o.FVars.l,x.FName≠zzN) (hu:zzN∉u.l)
  {c c' c1 c1':Z8}(hd:c.Fd=d) (hd':c'.Fd=d) (h:Z143_q c o u=some c1) (h':Z143_q c' o' u=some c1') :
  (c1.Fd=c.Fd/\c1.Fvars=c.Fvars/\c1'.Fd=c'.Fd/\c1'.Fvars=c'.Fvars)/\∃p,c1.Fout.l=c.Fout.l++p/\c1'.Fout.l=c'.Fout.l++p++[Z1.mk 26 o.FName]:=by
 unfold Z143_q at h h';obtain⟨c2,e2,h⟩:=Option.bind_eq_some_iff.1 h;cases h;obtain⟨c3,e3,h'⟩:=Option.bind_eq_some_iff.1 h';cases h';rw [hv,defs_app o' u z o.FVars.l 0 o.FVars.l.length c' (by omega)] at e3;obtain⟨c4,e4,e5⟩:=Option.bind_eq_some_iff.1 e3;have a:=defs_ao o o' u hn o.FVars.l 0 c c' (by rw [hd,hd']) (fun k hk=>by rw [hv,List.take_append_of_le_length (by omega)]) c1 c4 e2 e4;obtain⟨p,p1,p2⟩:=a.out
 rw [Z143_q4] at e5;simp only [Ab.on] at e5;rw [containsF_eq] at e5;have hany:List.any (o'.FVars.l.take o.FVars.l.length) (fun y0=>Z144_q y0 z)=false:=by
  rw [hv,List.take_append_of_le_length (Nat.le_refl _),List.take_length,List.any_eq_false];intro x hx';unfold Z144_q;rw [hz]
  simpa using hx x hx'
 have hct:Z116_q u z.FName=false:=by
  rw [contains_eq,hz]
  simpa using hu
 have hsc:Z110_q z.FType.FName=true:=by rw [hi]; rfl
 have hin:∀d,Z107_q d z.FType.FName=true:=by intro d; rw [hi]; rfl
 have hor:∀b:Bool,(b||bif !b then Z110_q z.FType.FName else false)=true:=by intro b; rw [hsc]; cases b<;>rfl
 simp only [hany,hct,hh,hor,hin,Z142_q,Bool.not_true,Bool.and_false,Bool.false_and,Bool.not_false,cond_false,cond_true,Option.bind_some] at e5;obtain⟨c6,e6,e7⟩:=Option.bind_eq_some_iff.1 e5;obtain⟨w,e8,e9⟩:=Option.bind_eq_some_iff.1 e6;cases e9;rw [Z143_q4] at e7;cases e7;refine⟨⟨a.fd,a.fv,a.fd',a.fv'⟩,p,p1, ?_⟩;show w.l=_;rw [appS e8,p2,hn]
def opBody (q:Z6) (o:TOp) (i:Nat) (c:Z8):Option Z8:=(Z141_q q (i:Int)).bind fun u=>(Z143_q (Z8.mk c.Fd o.FVars c.Fout) o u).bind fun c1=>(vars_checker_sels_q c1 o.FSels (Z109_q o.FKind) o.FName).bind fun c2=>(Z19_q q o.FSels).bind fun s=>Z139_q31 q s.1.l c2
theorem q10_cons (q:Z6) (o:TOp) (r:List TOp) (i:Nat) (c:Z8):Z139_q10 q (o::r) i c=(opBody q o i c).bind fun y=>Z139_q10 q r (i+1) y:=by
 rw [Z139_q10];simp only [Ab.on,opBody,Option.bind_assoc]
section
variable {N:Nat}{d:TDoc}{q q':Z6}
def DefsAs (d:TDoc) (o o':TOp) (u:Sl Bs) (m:List Z1):Prop:=∀c c' c1 c1':Z8,c.Fd=d->c'.Fd=d->Z143_q (Z8.mk c.Fd o.FVars c.Fout) o u=some c1->Z143_q (Z8.mk c'.Fd o'.FVars c'.Fout) o' u=some c1' ->
 (∃p,c1.Fout.l=c.Fout.l++p/\c1'.Fout.l=c'.Fout.l++p++m)/\Lk (·∈u.l) c1 c1'
theorem defsAs_same (d:TDoc) (o:TOp) (u:Sl Bs):DefsAs d o o u []:=by
 intro c c' c1 c1' hd hd' h h';unfold Z143_q at h h';obtain⟨c2,e2,h⟩:=Option.bind_eq_some_iff.1 h;cases h;obtain⟨c3,e3,h'⟩:=Option.bind_eq_some_iff.1 h';cases h';have a:=defs_ao o o u rfl o.FVars.l 0 (Z8.mk c.Fd o.FVars c.Fout) (Z8.mk c'.Fd o.FVars c'.Fout) (by rw [hd,hd']) (fun _ _=>rfl) _ _ e2 e3;obtain⟨p,p1,p2⟩:=a.out;exact⟨⟨p,p1,by rw [p2,List.append_nil]⟩,by rw [a.fd',a.fd]; exact hd'.trans hd.symm,.inl (by rw [a.fv',a.fv])⟩
theorem defsAs_one {o o':TOp}{z:TVar}{u:Sl Bs}(hn:o'.FName=o.FName) (hv:o'.FVars.l=o.FVars.l++[z]) (hz:z.FName=zzN) (hi:z.FType.FName=[73,110,116]) (hh:z.FHas=false) (hx:∀x∈o.FVars.l,x.FName≠zzN) (hu:zzN∉u.l):DefsAs d o o' u [Z1.mk 26 o.FName]:=by
 intro c c' c1 c1' hd hd' h h';obtain⟨⟨f1,f2,f3,f4⟩,p,p1,p2⟩:=defs_one (c:=Z8.mk c.Fd o.FVars c.Fout) (c':=Z8.mk c'.Fd o'.FVars c'.Fout) hn hv hz hi hh hx hu (d:=d) hd hd' h h';refine⟨⟨p,p1,p2⟩,by rw [f3,f1]; exact hd'.trans hd.symm,.inr ⟨z,by rw [f4,f2]; exact hv,fun s hs=>?_⟩⟩;rw [hz];have:zzN≠s:=fun e=>hu (e▸hs)
 simpa using this
theorem op_step (hN2:N<=1073741000) (hD:InsOk (N+1) d) (hS:DSok d) (hq:QV q) (hfr:q'.FFrags.l=q.FFrags.l){i:Nat}{o o':TOp}(ho:q.FOps.l[i]?=some o) (ho':q'.FOps.l[i]?=some o') (hs:o'.FSels=o.FSels) (hk:o'.FKind=o.FKind) (hn:o'.FName=o.FName)
  (hv:∀x∈o.FVars.l,SOk x.FType.FWraps/\Wv (N+1) x.FDefault) (hv':∀x∈o'.FVars.l,SOk x.FType.FWraps/\Wv (N+1) x.FDefault) (hlen:o'.FVars.l.length<=o.FVars.l.length+1){m:List Z1}(hm:∀u,Z141_q q (i:Int)=some u->DefsAs d o o' u m)
  {c c':Z8}(hd:c.Fd=d) (hd':c'.Fd=d) (hb:c.Fout.l.length<=780000000) (hb':c'.Fout.l.length<=780000000) :
  ∃c2 c2',opBody q o i c=some c2/\opBody q' o' i c'=some c2'/\c2.Fd=d/\c2'.Fd=d/\c2.Fout.l.length<=c.Fout.l.length+20000000/\c2'.Fout.l.length<=c'.Fout.l.length+20000000/\∃p s,c2.Fout.l=c.Fout.l++(p++s)/\c2'.Fout.l=c'.Fout.l++(p++(m++s)):=by
 have hmem:o∈q.FOps.l:=List.mem_of_getElem? ho;have hz:=hq.osz o hmem;have hsl:=@op_sels o;have hvl:o.FVars.l.length<=1048576:=by
  have h1:=o.sz_def;have h2:=Sl.len_lt (f:=TVar.sz) o.FVars TVar.pos;omega
 obtain⟨u,w,sp,e1,e2,e3,e4⟩:=used_both hq ho;obtain⟨s,b,r1,r2,b',r3⟩:=reach_told hq.okV hq.frags o.FSels (by omega);obtain⟨s',b2,r1',r2',b2',r3'⟩:=reach_told (q:=q') (by have:=hq.okV; unfold QOkV at this ⊢; rw [hfr]; exact this) (by rw [hfr]; exact hq.frags) o.FSels (by omega);rw [visit_cong hfr,r1] at r1';cases r1';unfold opBody;rw [e2,used_cong hfr ho ho' hs,e2,Option.bind_some,Option.bind_some,hs,hk,hn]
 obtain⟨c1,f1,q1⟩:=defs_vt hN2 hD o u (Z8.mk c.Fd o.FVars c.Fout) hv hd (by show c.Fout.l.length+_<=_; omega);obtain⟨c1',f1',q1'⟩:=defs_vt hN2 hD o' u (Z8.mk c'.Fd o'.FVars c'.Fout) hv' hd' (by show c'.Fout.l.length+_<=_; omega);obtain⟨⟨p,p1,p2⟩,hlk⟩:=hm u e2 c c' c1 c1' hd hd' f1 f1';have hv1:VOk c1:=by
  have:VOk (Z8.mk c.Fd o.FVars c.Fout):=⟨by show DSok c.Fd; rw [hd]; exact hS,fun x hx=>(hv x hx).1⟩;exact q1.ok this
 have hv1':VOk c1':=by
  have:VOk (Z8.mk c'.Fd o'.FVars c'.Fout):=⟨by show DSok c'.Fd; rw [hd']; exact hS,fun x hx=>(hv' x hx).1⟩;exact q1'.ok this
 have l1:c1.Fout.l.length<=c.Fout.l.length+5*o.FVars.l.length:=q1.hi;have l1':c1'.Fout.l.length<=c'.Fout.l.length+5*o'.FVars.l.length:=q1'.hi;rw [f1,f1',Option.bind_some,Option.bind_some];obtain⟨c2,f2,q2⟩:=sels_vt c1 o.FSels (Z109_q o.FKind) o.FName (by omega) hv1 (by omega) (by omega);obtain⟨c2',f2',q2'⟩:=sels_vt c1' o.FSels (Z109_q o.FKind) o.FName (by omega) hv1' (by omega) (by omega);have a2:=sels_ao o.FSels (Z109_q o.FKind) o.FName hlk e4.1 c2 c2' f2 f2'
 rw [f2,f2',Option.bind_some,Option.bind_some,r3,r3',Option.bind_some,Option.bind_some];have l2:=q2.hi;have l2':=q2'.hi;obtain⟨c3,f3,q3⟩:=vfrags_vt hq s.l c2 (q2.ok hv1) (by omega);obtain⟨c3',f3',q3'⟩:=vfrags_vt hq s.l c2' (q2'.ok hv1') (by omega);have l3:=q3.hi;have l3':=q3'.hi;have a3:=vfrags_ao (q:=q) (q':=q) rfl s.l c2 c2' (hlk.ad a2) (fun nm hnm=>e4.2 nm ((walk_par q F0 o.FSels Sl.nil [] Sl.nil w sp s b (fun x=>by simp [Sl.nil]) e1 r1 nm).1 hnm)) c3 c3' f3 f3'
 obtain⟨t2,t3,t4⟩:=a2.out;obtain⟨t5,t6,t7⟩:=a3.out;refine⟨c3,c3',f3,by rw [q31_cong hfr]; exact f3',by rw [q3.fd,q2.fd,q1.fd]; exact hd,by rw [q3'.fd,q2'.fd,q1'.fd]; exact hd',by omega,by omega,p,t2++t5, ?_, ?_⟩
 ·rw [t6,t3,p1]; simp only [List.append_assoc]
 ·rw [t7,t4,p2]; simp only [List.append_assoc]
theorem ops_same (hN2:N<=1073741000) (hD:InsOk (N+1) d) (hS:DSok d) (hq:QV q) (hfr:q'.FFrags.l=q.FFrags.l) (hv:∀o∈q.FOps.l,∀x∈o.FVars.l,SOk x.FType.FWraps/\Wv (N+1) x.FDefault):∀(l:List TOp) (i:Nat) (c c':Z8),q.FOps.l.drop i=l->q'.FOps.l.drop i=l->c.Fd=d->c'.Fd=d ->
  c.Fout.l.length+20000000*l.length<=780000000->c'.Fout.l.length+20000000*l.length<=780000000->∃c1 c1',Z139_q10 q l i c=some c1/\Z139_q10 q' l i c'=some c1'/\c1.Fout.l.length<=c.Fout.l.length+20000000*l.length/\∃s,c1.Fout.l=c.Fout.l++s/\c1'.Fout.l=c'.Fout.l++s
 | [],i,c,c',_,_,_,_,_,_=>⟨c,c',rfl,rfl,by omega,[],by simp,by simp⟩
 | o::r,i,c,c',hl,hl',hd,hd',hb,hb'=>by
  obtain⟨-,t2,t3⟩:=take_next hl;obtain⟨-,t2',t3'⟩:=take_next hl';simp only [List.length_cons] at hb hb';have hvo:=hv o (List.mem_of_getElem? t3);obtain⟨c1,c1',f1,f1',g1,g1',b1,b1',p,s,p1,p2⟩:=op_step hN2 hD hS hq hfr t3 t3' rfl rfl rfl hvo hvo (by omega) (fun u _=>defsAs_same d o u) hd hd' (by omega) (by omega);obtain⟨c2,c2',f2,f2',b2,t,t1,t4⟩:=ops_same hN2 hD hS hq hfr hv r (i+1) c1 c1' t2 t2' g1 g1' (by omega) (by omega)
  rw [q10_cons,q10_cons,f1,f1',Option.bind_some,Option.bind_some];exact⟨c2,c2',f2,f2',by simp only [List.length_cons]; omega,(p++s)++t,by rw [t1,p1,List.append_assoc],by rw [t4,p2,List.nil_append,List.append_assoc]⟩
theorem ops_one (hN2:N<=1073741000) (hD:InsOk (N+1) d) (hS:DSok d) (hq:QV q) (hfr:q'.FFrags.l=q.FFrags.l) (hv:∀o∈q.FOps.l,∀x∈o.FVars.l,SOk x.FType.FWraps/\Wv (N+1) x.FDefault){o o':TOp}{B:List TOp}{k:Nat}(hs:o'.FSels=o.FSels) (hk:o'.FKind=o.FKind) (hn:o'.FName=o.FName)
  (hv':∀x∈o'.FVars.l,SOk x.FType.FWraps/\Wv (N+1) x.FDefault) (hlen:o'.FVars.l.length<=o.FVars.l.length+1){F:Z1}(hm:∀u,Z141_q q (k:Int)=some u->DefsAs d o o' u [F]) :
  ∀(A:List TOp) (i:Nat) (c c':Z8),i+A.length=k->q.FOps.l.drop i=A++o::B->q'.FOps.l.drop i=A++o'::B->c.Fd=d->c'.Fd=d->c'.Fout.l=c.Fout.l->c.Fout.l.length+20000000*(A++o::B).length<=780000000 ->
  ∃c1 c1',Z139_q10 q (A++o::B) i c=some c1/\Z139_q10 q' (A++o'::B) i c'=some c1'/\c1.Fout.l.length<=c.Fout.l.length+20000000*(A++o::B).length/\∃p s,c1.Fout.l=p++s/\c1'.Fout.l=p++F::s
 | [],i,c,c',hi,hl,hl',hd,hd',he,hb=>by
  obtain rfl:i=k:=by simpa using hi
  simp only [List.nil_append,List.length_cons] at hl hl' hb ⊢;obtain⟨-,t2,t3⟩:=take_next hl;obtain⟨-,t2',t3'⟩:=take_next hl';have hvo:=hv o (List.mem_of_getElem? t3);have he':c'.Fout.l.length=c.Fout.l.length:=by rw [he]
  obtain⟨c1,c1',f1,f1',g1,g1',b1,b1',p,s,p1,p2⟩:=op_step hN2 hD hS hq hfr t3 t3' hs hk hn hvo hv' hlen hm hd hd' (by omega) (by omega);obtain⟨c2,c2',f2,f2',b2,t,t1,t4⟩:=ops_same hN2 hD hS hq hfr hv B (i+1) c1 c1' t2 t2' g1 g1' (by omega) (by omega);rw [q10_cons,q10_cons,f1,f1',Option.bind_some,Option.bind_some];refine⟨c2,c2',f2,f2',by omega,c.Fout.l++p,s++t,by rw [t1,p1]; simp only [List.append_assoc],by rw [t4,p2,he]; simp only [List.append_assoc,List.cons_append,List.nil_append]⟩
 | a::A,i,c,c',hi,hl,hl',hd,hd',he,hb=>by
  simp only [List.cons_append,List.length_cons] at hl hl' hb hi ⊢;obtain⟨-,t2,t3⟩:=take_next hl;obtain⟨-,t2',t3'⟩:=take_next hl';have hvo:=hv a (List.mem_of_getElem? t3);have he':c'.Fout.l.length=c.Fout.l.length:=by rw [he]
  obtain⟨c1,c1',f1,f1',g1,g1',b1,b1',p,s,p1,p2⟩:=op_step hN2 hD hS hq hfr t3 t3' rfl rfl rfl hvo hvo (by omega) (fun u _=>defsAs_same d a u) hd hd' (by omega) (by omega);obtain⟨c2,c2',f2,f2',b2,h⟩:=ops_one hN2 hD hS hq hfr hv hs hk hn hv' hlen hm A (i+1) c1 c1' (by omega) t2 t2' g1 g1' (by rw [p1,p2,he,List.nil_append]) (by omega);rw [q10_cons,q10_cons,f1,f1',Option.bind_some,Option.bind_some];exact⟨c2,c2',f2,f2',by omega,h⟩
end
end Go.Proofs
