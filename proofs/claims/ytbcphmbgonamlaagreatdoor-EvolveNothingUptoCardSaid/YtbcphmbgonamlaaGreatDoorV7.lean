import Derived.Test.YtbcphmbgonamlaaGreatDoorV6
import Derived.Test.YtbcphmbgonamlaaGreatDoorRows
set_option maxRecDepth 100000
set_option maxHeartbeats 2000000
set_option linter.unusedVariables false
set_option linter.unusedSimpArgs false
namespace Go.Proofs
open Go Go.Ab
def Tl {α:Type}(o:Option (Sl α)) (b:Nat):Prop:=∃r,o=some r/\r.l.length<=b
theorem Tl.mono {α:Type}{o:Option (Sl α)}{a b:Nat}(h:Tl o a) (hb:a<=b):Tl o b:=by obtain⟨r,h1,h2⟩:=h; exact⟨r,h1,by omega⟩
theorem app24 {s r:Sl Z6}(h:s.l.length+r.l.length<=1073741824):∃v,appC 24 s r=some v/\v.l.length=s.l.length+r.l.length:=⟨_,appC_ok (by decide) (by omega),by simp⟩
theorem Tl.add1 {s:Sl Z6}{x:Z6}{b:Nat}(h:s.l.length<=b) (hb:b<=1000000000):Tl ((appC 24 s (⟨false,[x]⟩:Sl Z6)).bind fun y=>some y) (b+1):=by
 obtain⟨v,h1,h2⟩:=app24 (s:=s) (r:=⟨false,[x]⟩) (by simp; omega);exact⟨v,by rw [h1]; rfl,by rw [h2]; simp; omega⟩
theorem Tl.bind {α β:Type}{o:Option (Sl α)}{k:Sl α->Option (Sl β)}{a b:Nat}(h:Tl o a) (hk:∀r:Sl α,r.l.length<=a->Tl (k r) b):Tl (o.bind k) b:=by
 obtain⟨r,h1,h2⟩:=h;rw [h1]; exact hk r h2
theorem Bs.len_le (s:Bs):s.length<=Bs.sz s:=Nat.le_succ _
theorem reserved_ok (s:Bs):∃v,Z38_q s=some v:=by
 unfold Z38_q
 match s with
 | []=>exact⟨_,rfl⟩
 | [a]=>exact⟨_,rfl⟩
 | a::b::r =>
  rw [show decide ((2:Int)<=(((a::b::r:Bs).length:Nat):Int))=true from decide_eq_true (by simp only [List.length_cons]; omega)];simp only [guardO,if_true,List.getElem?_cons_zero,List.getElem?_cons_succ,Option.bind_some,Bool.true_and]
  split<;>exact⟨_,rfl⟩
theorem allowed_ok (s:Bs):∃v,Z80_q s=some v:=by
 unfold Z80_q;simp only [Ab.on];cases Z37_q s
 ·exact⟨_,rfl⟩
 ·obtain⟨v,hv⟩:=reserved_ok s;simp only [guardO,if_true,hv];exact⟨_,rfl⟩
theorem names_tl (a:Bs) (b c:Bool) (d:Bs):Tl (Z89_q a b c d) 2:=by
 unfold Z89_q;obtain⟨v,hv⟩:=allowed_ok a;have h1:∀z:Bool,Tl (bif z then((appC 24 (Sl.nil:Sl Z6) (⟨false,[(Z6.mk (6:Int) d)]⟩:Sl Z6)).bind fun x14=>some x14) else(some (Sl.nil:Sl Z6))) 1:=by
  intro z;cases z
  ·exact⟨Sl.nil,rfl,by simp [Sl.nil]⟩
  ·exact Tl.add1 (s:=Sl.nil) (b:=0) (Nat.le_refl _) (by omega)
 have h2:∀z,Tl (Option.bind (bif z then((appC 24 (Sl.nil:Sl Z6) (⟨false,[(Z6.mk (6:Int) d)]⟩:Sl Z6)).bind fun x14=>some x14) else(some (Sl.nil:Sl Z6))) fun s9_4=>Option.bind (bif c then((appC 24 s9_4 (⟨false,[(Z6.mk (7:Int) d)]⟩:Sl Z6)).bind fun x10=>some x10) else(some s9_4)) fun s9_6=>some s9_6) 2:=by
  intro z;refine(h1 z).bind fun r hr=>?_;cases c
  ·exact⟨r,rfl,by omega⟩
  ·refine(Tl.add1 hr (by omega)).bind fun q hq=>⟨q,rfl,by omega⟩
 cases b
 ·simp only [guardO,Bool.not_false,if_true,hv,Option.bind_some]; exact h2 _
 ·exact h2 true
theorem Tl.appT {s:Sl Z6}{o:Option (Sl Z6)}{a b c:Nat}{k:Sl Z6->Option (Sl Z6)}(hs:s.l.length<=a) (h:Tl o b) (hb:a+b<=1000000000) (hk:∀r:Sl Z6,r.l.length<=a+b->Tl (k r) c):Tl (o.bind fun x=>(appC 24 s x).bind k) c:=by
 obtain⟨r,h1,h2⟩:=h;obtain⟨v,h3,h4⟩:=app24 (s:=s) (r:=r) (by omega);rw [h1,Option.bind_some,h3,Option.bind_some];exact hk v (by omega)
theorem inputs_loop (d:TDoc) (a1:Sl Z9) (p q:Bs) (hp:p.length<=10000000) (hq:q.length<=10):∀(l:List Z9) (i:Nat) (s:Sl Z6),(∀x∈l,x.FName.length<=1048576)->s.l.length+3*l.length<=900000000->Tl (Z86_q7 d a1 p q l i s) (s.l.length+3*l.length)
 | [],i,s,_,_=>⟨s,rfl,by simp⟩
 | x::l,i,s,hx,hs=>by
  have hn:=hx x (.head _);simp only [List.length_cons] at hs;rw [Z86_q7];simp only [Ab.on];rw [catC_ok (by omega),Option.bind_some,catC_ok (by simp; omega),Option.bind_some];refine Tl.appT (Nat.le_refl _) (names_tl _ _ _ _) (by omega) fun r hr=>?_;have key:∀(y:Z6),Tl (Option.bind ((appC 24 r (⟨false,[y]⟩:Sl Z6)).bind fun z=>some z) fun s9_15=>Z86_q7 d a1 p q l (i+1) s9_15) (s.l.length+3*(l.length+1)):=by
   intro y;refine(Tl.add1 hr (by omega)).bind fun v hv=>?_;exact(inputs_loop d a1 p q hp hq l (i+1) v (fun z hz=>hx z (.tail _ hz)) (by omega)).mono (by omega)
  rw [List.length_cons];cases Z87_q d x.FType.FName
  ·exact key _
  ·cases Z77_q d x.FType.FName
   ·exact key _
   ·exact(inputs_loop d a1 p q hp hq l (i+1) r (fun z hz=>hx z (.tail _ hz)) (by omega)).mono (by omega)
theorem inputs_tl (d:TDoc) (a1:Sl Z9) (p q:Bs) (hp:p.length<=10000000) (hq:q.length<=10) (h1:Sl.sz Z9.sz a1<=1048576):Tl (Z86_q d a1 p q) (3*a1.l.length):=by
 unfold Z86_q;have hl:=Sl.len_le (f:=Z9.sz) a1 (fun x=>Z9.pos x);have:=inputs_loop d a1 p q hp hq a1.l 0 Sl.nil (fun x hx=>by
  have h2:=Sl.mem_le (f:=Z9.sz) hx;have h3:=x.sz_def;have h4:x.FName.length<=Bs.sz x.FName:=Bs.len_le _;omega) (by simp [Sl.nil]; omega)
 obtain⟨r,h2,h3⟩:=this;rw [h2];exact⟨r,rfl,by simpa [Sl.nil] using h3⟩
theorem fields_loop (d:TDoc) (a1:TDef) (ha:a1.FName.length<=1048576):∀(l:List Z7) (i:Nat) (s:Sl Z6),(l.map Z7.sz).sum<=1048576->s.l.length+3*(l.map Z7.sz).sum<=900000000->Tl (Z84_q7 d a1 l i s) (s.l.length+3*(l.map Z7.sz).sum)
 | [],i,s,_,_=>⟨s,rfl,by simp⟩
 | x::l,i,s,hx,hs=>by
  simp only [List.map_cons,List.sum_cons] at hx hs;have h3:=x.sz_def;have h4:x.FName.length<=Bs.sz x.FName:=Bs.len_le _;have h5:=Sl.len_le (f:=Z9.sz) x.FArgs (fun x=>Z9.pos x);have h6:=Bs.sz_pos x.FName;rw [Z84_q7];simp only [Ab.on];rw [catC_ok (by simp; omega),Option.bind_some,catC_ok (by simp; omega),Option.bind_some];refine Tl.appT (Nat.le_refl _) (names_tl _ _ _ _) (by omega) fun r hr=>?_;have rest:∀v:Sl Z6,v.l.length<=s.l.length+3->Tl ((catC (a1.FName++[46]++x.FName) ([40]:Bs)).bind fun x31=>(Z86_q d x.FArgs x31 ([41]:Bs)).bind fun x32=>(appC 24 v x32).bind fun x33=>Z84_q7 d a1 l (i+1) x33) (s.l.length+3*(x.sz+(l.map Z7.sz).sum)):=by
   intro v hv;rw [catC_ok (by simp; omega),Option.bind_some];refine Tl.appT hv (inputs_tl d x.FArgs _ _ (by simp; omega) (by simp) (by omega)) (by omega) fun w hw=>?_;exact(fields_loop d a1 ha l (i+1) w (by omega) (by omega)).mono (by omega)
  have key:∀(y:Z6),Tl (Option.bind ((appC 24 r (⟨false,[y]⟩:Sl Z6)).bind fun z=>some z) fun s5_30=>(catC (a1.FName++[46]++x.FName) ([40]:Bs)).bind fun x31=>(Z86_q d x.FArgs x31 ([41]:Bs)).bind fun x32=>(appC 24 s5_30 x32).bind fun x33=>Z84_q7 d a1 l (i+1) x33) (s.l.length+3*(x.sz+(l.map Z7.sz).sum)):=by
   intro y;exact(Tl.add1 hr (by omega)).bind fun v hv=>rest v (by omega)
  simp only [List.map_cons,List.sum_cons];cases Z87_q d x.FType.FName
  ·exact key _
  ·cases hz:((!Z79_q x.FType.FName)&&(Z75_q d x.FType.FName).2)&&decide ((Z75_q d x.FType.FName).1.FKind=5)
   ·exact rest r (by omega)
   ·exact key _
theorem fields_tl (d:TDoc) (a1:TDef) (h:a1.sz<=1048576):Tl (Z84_q d a1) (3*a1.sz):=by
 unfold Z84_q;have h3:=a1.sz_def;have h4:a1.FName.length<=Bs.sz a1.FName:=Bs.len_le _;have h5:Sl.sz Z7.sz a1.FFields=1+(a1.FFields.l.map Z7.sz).sum:=rfl;obtain⟨r,h1,h2⟩:=fields_loop d a1 (by omega) a1.FFields.l 0 Sl.nil (by omega) (by simp [Sl.nil]; omega);rw [h1];exact⟨r,rfl,by simp [Sl.nil] at h2; omega⟩
theorem again_ok (a:TDef) (x:Z10):∀(n i:Nat) (b:Bool),i+n<=a.FMembers.l.length->∃v,Z88_q26 a x n i b=some v
 | 0,_,b,_=>⟨b,rfl⟩
 | n+1,i,b,h=>by
  rw [Z88_q26];cases b
  ·simp only [guardO,Bool.not_false,if_true];rw [List.getElem?_eq_getElem (show i<a.FMembers.l.length by omega),Option.bind_some];exact again_ok a x n (i+1) _ (by omega)
  ·simp only [guardO,Bool.not_true];exact again_ok a x n (i+1) _ (by omega)
theorem members_loop (a:TDef) (ha:a.FName.length<=1048576):∀(l:List Z10) (i:Nat) (s:Sl Z6),(∀x∈l,x.FName.length<=1048576)->i+l.length=a.FMembers.l.length->s.l.length+2*l.length<=900000000->Tl (Z88_q7 a l i s) (s.l.length+2*l.length)
 | [],i,s,_,_,_=>⟨s,rfl,by simp⟩
 | x::l,i,s,hx,hi,hs=>by
  have hn:=hx x (.head _);simp only [List.length_cons] at hs hi;rw [Z88_q7];simp only [Ab.on];obtain⟨v,hv⟩:=again_ok a x i 0 false (by omega);rw [hv,Option.bind_some,catC_ok (by simp; omega),Option.bind_some,catC_ok (by simp; omega),Option.bind_some];refine Tl.appT (Nat.le_refl _) (names_tl _ _ _ _) (by omega) fun r hr=>?_;exact(members_loop a ha l (i+1) r (fun z hz=>hx z (.tail _ hz)) (by omega) (by omega)).mono (by simp only [List.length_cons]; omega)
theorem members_tl (a:TDef) (h:a.sz<=1048576):Tl (Z88_q a) (3*a.sz):=by
 unfold Z88_q;have h3:=a.sz_def;have h4:a.FName.length<=Bs.sz a.FName:=Bs.len_le _;have h5:=Sl.len_le (f:=Z10.sz) a.FMembers (fun x=>Z10.pos x);obtain⟨r,h1,h2⟩:=members_loop a (by omega) a.FMembers.l 0 Sl.nil (fun x hx=>by
  have h6:=Sl.mem_le (f:=Z10.sz) hx;have h7:=x.sz_def;have h8:x.FName.length<=Bs.sz x.FName:=Bs.len_le _;omega) (by simp) (by simp [Sl.nil]; omega)
 rw [h1];exact⟨r,rfl,by simp [Sl.nil] at h2; omega⟩
def left (U s:List Bs):Nat:=(U.filter fun x=>!s.contains x).length
theorem left_add {U s:List Bs}{x:Bs}(hU:x∈U) (hs:s.contains x=false):left U (s++[x])+1<=left U s:=by
 have mono:∀l:List Bs,(l.filter fun y=>!(s++[x]).contains y).length<=(l.filter fun y=>!s.contains y).length:=by
  intro l;induction l with
  | nil=>simp
  | cons a r ih =>
   have ha:s.contains a=true->(s++[x]).contains a=true:=by
    intro h;simp only [List.contains_eq_mem,decide_eq_true_eq,List.mem_append] at h ⊢;exact .inl h
   cases h1:s.contains a
   ·cases h2:(s++[x]).contains a
    ·rw [List.filter_cons_of_pos (by rw [h2]; rfl),List.filter_cons_of_pos (by rw [h1]; rfl)];simp only [List.length_cons]; omega
    ·rw [List.filter_cons_of_neg (by rw [h2]; decide),List.filter_cons_of_pos (by rw [h1]; rfl)];simp only [List.length_cons]; omega
   ·rw [List.filter_cons_of_neg (by rw [ha h1]; decide),List.filter_cons_of_neg (by rw [h1]; decide)]; exact ih
 unfold left;obtain⟨a,b,rfl⟩:=List.append_of_mem hU;rw [List.filter_append,List.filter_append,List.length_append,List.length_append];have hx:(s++[x]).contains x=true:=by simp
 rw [List.filter_cons_of_neg (by rw [hx]; decide),List.filter_cons_of_pos (by rw [hs]; rfl)];have h1:=mono a;have h2:=mono b;simp only [List.length_cons]; omega
def inNames (d:TDef):List Bs:=d.FInputs.l.map fun x=>x.FType.FName
def docNames (d:TDoc):List Bs:=d.FDefs.l.flatMap inNames
theorem docNames_len (d:TDoc):(docNames d).length<=d.sz:=by
 have h1:=d.sz_def;have h2:Sl.sz TDef.sz d.FDefs=1+(d.FDefs.l.map TDef.sz).sum:=rfl;have:∀l:List TDef,(l.flatMap inNames).length<=(l.map TDef.sz).sum:=by
  intro l;induction l with
  | nil=>simp
  | cons a r ih =>
   have h3:=a.sz_def;have h5:=Sl.len_le (f:=Z9.sz) a.FInputs (fun x=>Z9.pos x);simp only [List.flatMap_cons,List.length_append,List.map_cons,List.sum_cons];have:(inNames a).length=a.FInputs.l.length:=by unfold inNames; rw [List.length_map]
   omega
 have:=this d.FDefs.l;unfold docNames; omega
theorem has_false:∀(l:List Bs) (x:Bs),(match Z85_q5 x l with|Sum.inl _=>false|Sum.inr e=>e)=l.contains x
 | [],_=>rfl
 | a::r,x=>by
  rw [Z85_q5,List.contains_cons];simp only [Ab.on];by_cases h:a=x
  ·subst h; simp
  ·have h2:(a==x)=false:=by simpa using h
   have h3:(x==a)=false:=by simpa using fun e=>h e.symm
   rw [h2,h3,cond_false,Bool.false_or]; exact has_false r x
theorem direct_ok (t:TRef):∃b,Z82_q t=some b:=by
 unfold Z82_q;by_cases h:t.FWraps.l.length=1
 ·rw [show decide (((t.FWraps.l.length:Nat):Int)=1)=true from decide_eq_true (by omega)];simp only [guardO,if_true];rw [List.getElem?_eq_getElem (show 0<t.FWraps.l.length by omega)];exact⟨_,rfl⟩
 ·rw [show decide (((t.FWraps.l.length:Nat):Int)=1)=false from decide_eq_false (by omega)];exact⟨_,rfl⟩
def Vs (U:List Bs) (M:Nat) (s:Sl Bs):Prop:=s.l.length+left U s.l<=M
theorem next_loop (d:TDoc) (c:Bs) (U:List Bs) (M:Nat) (hM:M<=2000000):∀(l:List Z9) (s:Sl Bs),(∀x∈l,x.FType.FName∈U)->Vs U M s->∃r,Z90_q6 d c l s=some r/\Vs U M r/\s.l.length<=r.l.length
 | [],s,_,h=>⟨s,rfl,h,Nat.le_refl _⟩
 | x::l,s,hx,h=>by
  have hn:=hx x (.head _);have hx':∀z∈l,z.FType.FName∈U:=fun z hz=>hx z (.tail _ hz);obtain⟨b,hb⟩:=direct_ok x.FType;rw [Z90_q6];simp only [Ab.on];rw [hb,Option.bind_some];generalize (b&&((x.FType.FName==c)||((Z75_q d x.FType.FName).2&&decide ((Z75_q d x.FType.FName).1.FKind=5))))=w;have hq:Z85_q s x.FType.FName=s.l.contains x.FType.FName:=by
   rw [<- has_false]; unfold Z85_q; simp only [Ab.on];all_goals (cases Z85_q5 x.FType.FName s.l<;>rfl)
  cases w
  ·exact next_loop d c U M hM l s hx' h
  ·rw [cond_true,hq];cases hc:s.l.contains x.FType.FName
   ·unfold Vs at h;have hl:=left_add hn hc;simp only [Bool.not_false,Bool.and_self,cond_true];rw [appC_ok (by decide) (by simp; omega),Option.bind_some,Option.bind_some];obtain⟨r,h1,h2,h3⟩:=next_loop d c U M hM l ⟨s.nl&&([x.FType.FName]:List Bs).isEmpty,s.l++[x.FType.FName]⟩ hx' (by unfold Vs; simp only [List.length_append,List.length_cons,List.length_nil]; omega);exact⟨r,h1,h2,by simp only [List.length_append,List.length_cons,List.length_nil] at h3; omega⟩
   ·exact next_loop d c U M hM l s hx' h
theorem find_in (d:TDoc) (n:Bs):(Z75_q d n).1∈d.FDefs.l\/(Z75_q d n).1.FInputs.l=[]:=by
 unfold Z75_q;simp only [Ab.on];have:∀l:List TDef,(match Z75_q6 n l with|Sum.inl _=>True|Sum.inr e=>e.1∈l):=by
  intro l;induction l with
  | nil=>exact trivial
  | cons a r ih =>
   rw [Z75_q6];simp only [Ab.on];cases hq:a.FName==n
   ·simp only [cond_false]
    revert ih
    cases Z75_q6 n r with
    | inl u=>intro _; exact trivial
    | inr e=>intro ih; exact .tail _ ih
   ·exact .head _
 have h:=this d.FDefs.l
 revert h
 cases Z75_q6 n d.FDefs.l with
 | inl u=>intro _; exact .inr rfl
 | inr e=>intro h; exact .inl h
theorem names_in {d:TDoc}{a:TDef}(h:a∈d.FDefs.l\/a.FInputs.l=[]):∀x∈a.FInputs.l,x.FType.FName∈docNames d:=by
 intro x hx;rcases h with h|h
 ·exact List.mem_flatMap.2 ⟨a,h,List.mem_map.2 ⟨x,hx,rfl⟩⟩
 ·rw [h] at hx; cases hx
theorem circ_loop (d:TDoc) (a:TDef) (hM:(docNames d).length<=1048576):∀(n i:Nat) (s:Sl Bs),Vs (docNames d) (docNames d).length s->i<=s.l.length->(docNames d).length+1<=n+i->∃b,Z81_l13 d a n s i=some b
 | 0,i,s,h,hi,hn=>by unfold Vs at h; omega
 | n+1,i,s,h,hi,hn=>by
  rw [Z81_l13];by_cases hlt:i<s.l.length
  ·rw [show decide (((i:Nat):Int)<((s.l.length:Nat):Int))=true from decide_eq_true (by omega),cond_true,List.getElem?_eq_getElem hlt,Option.bind_some,Z75_eq,Option.bind_some,Z90_eq];unfold Z90_q;obtain⟨r,h1,h2,h3⟩:=next_loop d a.FName (docNames d) (docNames d).length (by omega) _ s (names_in (find_in d s.l[i])) h;rw [h1,Option.bind_some];simp only [Ab.on,Option.bind_some];exact circ_loop d a hM n (i+1) r h2 (by omega) (by omega)
  ·rw [show decide (((i:Nat):Int)<((s.l.length:Nat):Int))=false from decide_eq_false (by omega),cond_false];unfold Z81_j8;rw [Z85_eq];exact⟨_,rfl⟩
theorem circular_ok {d:TDoc}(hd:d.sz<=1048576){a:TDef}(ha:a∈d.FDefs.l):∃b,Z81 d a=some b:=by
 have hM:=docNames_len d;unfold Z81;cases hk:(!decide (a.FKind=(5:Int)))
 ·rw [cond_false,Z90_eq];unfold Z90_q;have h0:Vs (docNames d) (docNames d).length Sl.nil:=by
   unfold Vs left;have:=List.length_filter_le (fun x=>!(Sl.nil:Sl Bs).l.contains x) (docNames d);simp only [Sl.nil,List.length_nil] at this ⊢; omega
  obtain⟨r,h1,h2,h3⟩:=next_loop d a.FName (docNames d) (docNames d).length (by omega) a.FInputs.l Sl.nil (names_in (.inl ha)) h0;rw [h1,Option.bind_some];simp only [Ab.on,Option.bind_some];exact circ_loop d a (by omega) F0 0 r h2 (by omega) (by rw [F0_eq]; omega)
 ·exact⟨false,rfl⟩
theorem j15_tl {s:Sl Z6}{b:Nat}(h:s.l.length<=b):Tl (Z91_j15 s) b:=⟨s,rfl,h⟩
theorem j13_tl {d:TDoc}(hd:d.sz<=1048576){a:TDef}(ha:a∈d.FDefs.l){s:Sl Z6}{b:Nat}(h:s.l.length<=b) (hb:b<=1000):Tl (Z91_j13 d a s) (b+1):=by
 unfold Z91_j13;obtain⟨v,hv⟩:=circular_ok hd ha;rw [hv,Option.bind_some];cases v
 ·exact(j15_tl h).mono (by omega)
 ·obtain⟨w,h1,h2⟩:=app24 (s:=s) (r:=⟨false,[Z6.mk (5:Int) a.FName]⟩) (by simp; omega);rw [cond_true,h1,Option.bind_some];exact j15_tl (by rw [h2]; simp; omega)
theorem j10_tl {d:TDoc}(hd:d.sz<=1048576){a:TDef}(ha:a∈d.FDefs.l){s:Sl Z6}{b:Nat}(h:s.l.length<=b) (hb:b<=900):Tl (Z91_j10 d a s) (b+2):=by
 unfold Z91_j10;generalize (((((((a.FName==([81,117,101,114,121]:Bs)))||((a.FName==([77,117,116,97,116,105,111,110]:Bs))))||((a.FName==([83,117,98,115,99,114,105,112,116,105,111,110]:Bs))))&&(!decide (a.FKind=(1:Int))))||(decide (a.FKind<(1:Int))))||(decide ((5:Int)<a.FKind)))=w;cases w
 ·exact(j13_tl hd ha h (by omega)).mono (by omega)
 ·obtain⟨w,h1,h2⟩:=app24 (s:=s) (r:=⟨false,[Z6.mk (9:Int) a.FName]⟩) (by simp; omega);rw [cond_true,h1,Option.bind_some];exact(j13_tl (b:=b+1) hd ha (by rw [h2]; simp; omega) (by omega)).mono (by omega)
theorem j6_tl {d:TDoc}(hd:d.sz<=1048576){a:TDef}(ha:a∈d.FDefs.l) (t:Bool):Tl (Z91_j6 d a t) 5:=by
 unfold Z91_j6;rw [Z89_eq];refine(names_tl _ _ _ _).bind fun r hr=>?_;rw [Z83_eq,Option.bind_some];cases Z83_q a
 ·exact(j10_tl hd ha hr (by omega)).mono (by omega)
 ·obtain⟨w,h1,h2⟩:=app24 (s:=r) (r:=⟨false,[Z6.mk (8:Int) a.FName]⟩) (by simp; omega);rw [cond_true,h1,Option.bind_some];exact j10_tl (b:=3) hd ha (by rw [h2]; simp; omega) (by omega)
theorem l30_tl {d:TDoc}(hd:d.sz<=1048576){a:TDef}(ha:a∈d.FDefs.l) (N:Nat) (hN:N<=d.FDefs.l.length) (hl:d.FDefs.l.length<=1048576):∀(n i:Nat) (t:Bool),i<=N->N-i<n->Tl (Z91_l30 d ((N:Nat):Int) a n t (i:Int)) 5
 | 0,_,_,_,h=>by omega
 | n+1,i,t,hi,hn=>by
  rw [Z91_l30];by_cases hlt:i<N
  ·have one:addC (i:Int) 1=some (((i+1:Nat)):Int):=by rw [addC_ok (by omega)]; rfl
   have hidx:idxC d.FDefs.l (i:Int)=some (d.FDefs.l[i]'(by omega)):=by
    unfold idxC; rw [if_pos (by omega),Int.toNat_natCast,List.getElem?_eq_getElem (show i<d.FDefs.l.length by omega)]
   rw [show decide ((i:Int)<((N:Nat):Int))=true from decide_eq_true (by omega),cond_true,one,hidx];cases t
   ·exact l30_tl hd ha N hN hl n (i+1) _ (by omega) (by omega)
   ·exact l30_tl hd ha N hN hl n (i+1) _ (by omega) (by omega)
  ·rw [show decide ((i:Int)<((N:Nat):Int))=false from decide_eq_false (by omega),cond_false];exact j6_tl hd ha t
theorem whole_tl {d:TDoc}(hd:d.sz<=1048576){i:Nat}(hi:i<d.FDefs.l.length):Tl (Z91_q d ((i:Nat):Int)) 5:=by
 have h1:=d.sz_def;have h2:=Sl.len_le (f:=TDef.sz) d.FDefs (fun x=>TDef.pos x);show Tl (Z91 d ((i:Nat):Int)) 5;unfold Z91;have hidx:idxC d.FDefs.l (i:Int)=some (d.FDefs.l[i]):=by
  unfold idxC; rw [if_pos (by omega),Int.toNat_natCast,List.getElem?_eq_getElem hi]
 rw [hidx,Option.bind_some,Z79_eq,Option.bind_some];exact l30_tl hd (List.getElem_mem hi) i (by omega) (by omega) F0 0 _ (by omega) (by rw [F0_eq]; omega)
theorem check_loop {d:TDoc}(hd:d.sz<=1048576):∀(l:List TDef) (i:Nat) (s:Sl Z6),d.FDefs.l.drop i=l->s.l.length+8*(l.map TDef.sz).sum<=900000000->Tl (Z73_q14 d l i s) (s.l.length+8*(l.map TDef.sz).sum)
 | [],i,s,_,_=>⟨s,rfl,by simp⟩
 | x::l,i,s,hl,hs=>by
  have hi:i<d.FDefs.l.length:=by
   have:=congrArg List.length hl;simp only [List.length_drop,List.length_cons] at this; omega
  have hx:x∈d.FDefs.l:=List.mem_of_mem_drop (i:=i) (by rw [hl]; exact .head _);have hd':d.FDefs.l.drop (i+1)=l:=by rw [<- List.drop_drop,hl]; rfl
  have h1:=Sl.mem_le (f:=TDef.sz) hx;have h2:=d.sz_def;have h3:=x.sz_def;have h4:=Bs.len_le x.FName;have h5:=Bs.sz_pos x.FName;have h6:=Sl.len_le (f:=Z9.sz) x.FInputs (fun x=>Z9.pos x);simp only [List.map_cons,List.sum_cons] at hs ⊢;rw [Z73_q14];simp only [Ab.on];refine Tl.appT (Nat.le_refl _) (whole_tl hd hi) (by omega) fun r hr=>?_;have rest:∀(o:Option (Sl Z6)),Tl o (s.l.length+5+3*x.sz)->Tl (o.bind fun v=>Z73_q14 d l (i+1) v) (s.l.length+8*(x.sz+(l.map TDef.sz).sum)):=by
   intro o ho;refine ho.bind fun v hv=>?_;exact(check_loop hd l (i+1) v hd' (by omega)).mono (by omega)
  have fin:∀{o:Option (Sl Z6)}{b:Nat},Tl o b->b<=3*x.sz->Tl (o.bind fun v=>(appC 24 r v).bind fun w=>some w) (s.l.length+5+3*x.sz):=by
   intro o b ho hb;exact Tl.appT hr ho (by omega) fun w hw=>⟨w,rfl,by omega⟩
  refine rest _ ?_;cases (bif decide (x.FKind=1) then decide (x.FKind=1) else decide (x.FKind=2))
  ·rw [cond_false];cases decide (x.FKind=4)
   ·rw [cond_false];cases decide (x.FKind=5)
    ·exact⟨r,rfl,by omega⟩
    ·rw [cond_true,catC_ok (by simp; omega),Option.bind_some];exact fin (inputs_tl d x.FInputs _ _ (by simp; omega) (by simp) (by omega)) (by omega)
   ·exact fin (members_tl x (by omega)) (by omega)
  ·exact fin (fields_tl d x (by omega)) (by omega)
theorem check_tl {d:TDoc}(hd:d.sz<=1048576) (b:Bool):Tl (Z73_q d b) 9000000:=by
 unfold Z73_q;have h2:=d.sz_def;have h3:Sl.sz TDef.sz d.FDefs=1+(d.FDefs.l.map TDef.sz).sum:=rfl;refine Tl.bind (a:=8*(d.FDefs.l.map TDef.sz).sum) ?_ fun r hr=>?_
 ·obtain⟨r,h4,h5⟩:=check_loop hd d.FDefs.l 0 Sl.nil rfl (by simp [Sl.nil]; omega);exact⟨r,h4,by simp [Sl.nil] at h5; omega⟩
 ·simp only [Ab.on];cases (b&&(!(Z75_q d ([81,117,101,114,121]:Bs)).2))
  ·exact⟨r,rfl,by omega⟩
  ·refine(Tl.add1 hr (by omega)).bind fun v hv=>⟨v,rfl,by omega⟩
end Go.Proofs

namespace Go.Proofs
open Go Go.Ab
theorem first_loop (d:TDoc) (N:Nat) (hN:N<d.FDefs.l.length) (hl:d.FDefs.l.length<=1048576):∀(n i:Nat),i<=N->N-i<n->∃b,Z97_l5 d ((N:Nat):Int) n (i:Int)=some b
 | 0,_,_,h=>by omega
 | n+1,i,hi,hn=>by
  rw [Z97_l5];by_cases hlt:i<N
  ·have one:addC (i:Int) 1=some (((i+1:Nat)):Int):=by rw [addC_ok (by omega)]; rfl
   have h1:idxC d.FDefs.l (i:Int)=some (d.FDefs.l[i]'(by omega)):=by
    unfold idxC; rw [if_pos (by omega),Int.toNat_natCast,List.getElem?_eq_getElem (show i<d.FDefs.l.length by omega)]
   have h2:idxC d.FDefs.l ((N:Nat):Int)=some (d.FDefs.l[N]):=by
    unfold idxC; rw [if_pos (by omega),Int.toNat_natCast,List.getElem?_eq_getElem hN]
   rw [show decide ((i:Int)<((N:Nat):Int))=true from decide_eq_true (by omega),cond_true,h1,h2,Option.bind_some,Option.bind_some,one];cases ((d.FDefs.l[i]'(by omega)).FName==(d.FDefs.l[N]).FName)
   ·exact first_loop d N hN hl n (i+1) (by omega) (by omega)
   ·exact⟨_,rfl⟩
  ·rw [show decide ((i:Int)<((N:Nat):Int))=false from decide_eq_false (by omega),cond_false];exact⟨_,rfl⟩
theorem first_ok {d:TDoc}(hl:d.FDefs.l.length<=1048576){i:Nat}(hi:i<d.FDefs.l.length):∃b,Z97_q d ((i:Nat):Int)=some b:=first_loop d i hi hl F0 0 (by omega) (by rw [F0_eq]; omega)
theorem possible_loop {d:TDoc}(hd:d.FDefs.l.length<=1048576) (n:Bs) (x:TDef×Bool):∀(l:List TDef) (i:Nat) (s:Sl Bs),d.FDefs.l.drop i=l->s.l.length+l.length<=4000000->Tl (Z94_q9 d n x l i s) (s.l.length+l.length)
 | [],i,s,_,_=>⟨s,rfl,by simp⟩
 | y::l,i,s,hl,hs=>by
  have hi:i<d.FDefs.l.length:=by
   have:=congrArg List.length hl;simp only [List.length_drop,List.length_cons] at this; omega
  have hd':d.FDefs.l.drop (i+1)=l:=by rw [<- List.drop_drop,hl]; rfl
  simp only [List.length_cons] at hs ⊢;rw [Z94_q9];cases x.2
  ·exact⟨s,rfl,by omega⟩
  ·rw [cond_true];simp only [Ab.on];have same:Tl (Z94_q9 d n x l (i+1) s) (s.l.length+(l.length+1)):=(possible_loop hd n x l (i+1) s hd' (by omega)).mono (by omega);have more:Tl (Option.bind ((appC 16 s (⟨false,[y.FName]⟩:Sl Bs)).bind fun x31=>some x31) fun v=>Z94_q9 d n x l (i+1) v) (s.l.length+(l.length+1)):=by
    rw [appC_ok (by decide) (by simp; omega),Option.bind_some,Option.bind_some];exact(possible_loop hd n x l (i+1) _ hd' (by simp; omega)).mono (by simp; omega)
   obtain⟨b,hb⟩:=first_ok hd hi;cases hk:decide (y.FKind=1)
   ·simp only [guardO,Bool.not_false,Bool.not_true,Bool.true_or,cond_true,Option.bind_some];exact same
   ·simp only [guardO,Bool.not_true,Bool.not_false,if_true,hb,Option.bind_some,Bool.false_or];cases b
    ·exact same
    ·simp only [Bool.not_true,cond_false];generalize ((((decide (x.1.FKind=(1:Int)))&&((y.FName==n)))||((decide (x.1.FKind=(2:Int)))&&_))||((decide (x.1.FKind=(3:Int)))&&_))=w;cases w
     ·exact same
     ·exact more
theorem possible_ok {d:TDoc}(hd:d.FDefs.l.length<=1048576) (n:Bs):Tl (Z94_q d n) d.FDefs.l.length:=by
 unfold Z94_q;simp only [Ab.on];obtain⟨r,h1,h2⟩:=possible_loop hd n (Z75_q d n) d.FDefs.l 0 Sl.nil rfl (by simp [Sl.nil]; omega);rw [h1];exact⟨r,rfl,by simpa [Sl.nil] using h2⟩
theorem is_ok {d:TDoc}(hd:d.FDefs.l.length<=1048576) (n m:Bs):∃b,Z93_q d n m=some b:=by
 unfold Z93_q;obtain⟨r,h1,-⟩:=possible_ok hd m;rw [h1]; exact⟨_,rfl⟩
end Go.Proofs

namespace Go.Proofs
open Go Go.Ab
def Sm (x:TDef):Prop:=x.FFields.l.length<=1000/\x.FMembers.l.length<=1000/\x.FImplements.l.length<=1000/\x.FInputs.l.length<=1000/\∀f∈x.FFields.l,f.FArgs.l.length<=1000
theorem cut11 {t:TRef}(h:t.FWraps.l.length<=1048576) (h1:1<=t.FWraps.l.length):Z56_q t=some ⟨t.FName,⟨false,t.FWraps.l.drop 1⟩⟩:=by
 unfold Z56_q;rw [partC_tail h1,Option.bind_some,appC_ok (by decide) (by simp; omega)];simp
theorem nullable11 {t:TRef}(h:t.FWraps.l.length<=1048576):∃u,Z53_q t=some u/\u.FWraps.l.length<=t.FWraps.l.length/\(Z52_q t=true->u.FWraps.l.length<t.FWraps.l.length):=by
 unfold Z53_q;simp only [Ab.on];cases hn:Z52_q t
 ·rw [cond_false,appC_ok (by decide) (by simp; omega)];exact⟨_,rfl,by simp,fun h=>by cases h⟩
 ·have h1:1<=t.FWraps.l.length:=by
   unfold Z52_q at hn;cases hw:t.FWraps.l with
   | nil=>rw [hw] at hn; cases hn
   | cons a r=>simp
  rw [cond_true,cut11 h h1];exact⟨_,rfl,by simp,fun _=>by simp; omega⟩
theorem inner11 {t:TRef}(h:t.FWraps.l.length<=1048576):∃u b,Z50_q t=some (u,b)/\(b=true->u.FWraps.l.length<t.FWraps.l.length):=by
 obtain⟨u,h1,h2,-⟩:=nullable11 h;unfold Z50_q Z51_q;rw [h1,Option.bind_some];simp only [Ab.on,Option.bind_some];cases hl:(decide ((0:Int)<((u.FWraps.l.length:Nat):Int))&&decide ((bif decide ((0:Int)<((u.FWraps.l.length:Nat):Int)) then(u.FWraps.l[0]?).getD 0 else 0)=2))
 ·exact⟨_,false,rfl,fun h=>by cases h⟩
 ·simp only [Bool.and_eq_true,decide_eq_true_eq] at hl;rw [Bool.not_true,cond_false,cut11 (by omega) (by omega),Option.bind_some];exact⟨_,true,rfl,fun _=>by simp; omega⟩
theorem sub_ok {d:TDoc}(hd:d.FDefs.l.length<=1048576):∀(n:Nat) (a b:TRef),a.FWraps.l.length<n->a.FWraps.l.length<=1048576->b.FWraps.l.length<=1048576->∃v,Z95_qn n d a b=some v
 | 0,_,_,h,_,_=>by omega
 | n+1,a,b,hn,ha,hb=>by
  rw [Z95_qn];simp only [Ab.on];obtain⟨u,u1,u2,u3⟩:=nullable11 ha;obtain⟨w,w1,w2,w3⟩:=nullable11 hb;cases hbn:Z52_q b
  ·rw [cond_false];cases han:Z52_q a
   ·rw [cond_false];obtain⟨p,x,p1,p2⟩:=inner11 ha;obtain⟨q,y,q1,q2⟩:=inner11 hb;rw [p1,q1,Option.bind_some,Option.bind_some];obtain⟨z,hz⟩:=is_ok hd a.FName b.FName;cases x
    ·cases y
     ·simp only [Bool.false_and,cond_false,Bool.not_false,Bool.true_and,Bool.and_self];cases (a.FName==b.FName)
      ·simp only [guardO,Bool.not_false,if_true,hz,Option.bind_some]; exact⟨_,rfl⟩
      ·exact⟨_,rfl⟩
     ·exact⟨_,rfl⟩
    ·cases y
     ·exact⟨_,rfl⟩
     ·have hq:=q2 rfl;have hp:=p2 rfl;obtain⟨v,hv⟩:=sub_ok hd n p q (by omega) (by omega) (by omega);simp only [Bool.and_self,cond_true,hv,Option.bind_some];exact⟨_,rfl⟩
   ·rw [cond_true,u1,Option.bind_some];obtain⟨v,hv⟩:=sub_ok hd n u b (by have:=u3 han; omega) (by omega) hb;rw [hv]; exact⟨_,rfl⟩
  ·rw [cond_true];cases han:Z52_q a
   ·exact⟨_,rfl⟩
   ·obtain⟨v,hv⟩:=sub_ok hd n u w (by have:=u3 han; omega) (by omega) (by omega);simp only [guardO,if_true,u1,w1,hv,Option.bind_some];exact⟨_,rfl⟩
theorem same11_ok (a b:TRef):∃v,Z55_q a b=some v:=by
 have loop:∀(c:Sl Int) (l:List Int) (i:Nat),l.length+i<=c.l.length->∃o,Z57_q11 c l i=some o:=by
  intro c l;induction l with
  | nil=>intro i _; exact⟨_,rfl⟩
  | cons x r ih =>
   intro i h;simp only [List.length_cons] at h;rw [Z57_q11];simp only [Ab.on];rw [List.getElem?_eq_getElem (show i<c.l.length by omega),Option.bind_some];cases (!decide (x=c.l[i]'(by omega)))
   ·exact ih (i+1) (by omega)
   ·exact⟨_,rfl⟩
 have h2:∃v,Z57_q a.FWraps b.FWraps=some v:=by
  unfold Z57_q;by_cases h:a.FWraps.l.length=b.FWraps.l.length
  ·rw [show (!decide (((a.FWraps.l.length:Nat):Int)=((b.FWraps.l.length:Nat):Int)))=false by rw [decide_eq_true (show ((a.FWraps.l.length:Nat):Int)=((b.FWraps.l.length:Nat):Int) by omega)]; rfl,cond_false];obtain⟨o,ho⟩:=loop b.FWraps a.FWraps.l 0 (by omega);rw [ho];cases o<;>exact⟨_,rfl⟩
  ·rw [show (!decide (((a.FWraps.l.length:Nat):Int)=((b.FWraps.l.length:Nat):Int)))=true by rw [decide_eq_false (show ¬((a.FWraps.l.length:Nat):Int)=((b.FWraps.l.length:Nat):Int) by omega)]; rfl];exact⟨_,rfl⟩
 obtain⟨v,hv⟩:=h2;unfold Z55_q;cases (a.FName==b.FName)
 ·exact⟨_,rfl⟩
 ·simp only [guardO,if_true,hv]; exact⟨_,rfl⟩
end Go.Proofs

namespace Go.Proofs
open Go Go.Ab
theorem appG {s r:Sl Z6}{T:Nat}(hT:T<=1099511627776) (h:s.l.length+r.l.length<=T):∃v,appC 24 s r=some v/\v.l.length=s.l.length+r.l.length:=⟨_,appC_ok (by decide) (Nat.le_trans h hT),by simp⟩
theorem Tl.appG {s:Sl Z6}{o:Option (Sl Z6)}{b c T:Nat}{k:Sl Z6->Option (Sl Z6)}(hT:T<=1099511627776) (h:Tl o b) (hb:s.l.length+b<=T) (hk:∀r:Sl Z6,r.l.length<=s.l.length+b->Tl (k r) c):Tl (o.bind fun x=>(appC 24 s x).bind k) c:=by
 obtain⟨r,h1,h2⟩:=h;obtain⟨v,h3,h4⟩:=Go.Proofs.appG (s:=s) (r:=r) hT (by omega);rw [h1,Option.bind_some,h3,Option.bind_some];exact hk v (by omega)
theorem fieldof_in (a:TDef) (n:Bs):(Z74_q a n).1∈a.FFields.l\/((Z74_q a n).1.FArgs.l=[]/\(Z74_q a n).1.FType.FWraps.l=[]):=by
 unfold Z74_q;simp only [Ab.on];have:∀l:List Z7,(match Z74_q6 n l with|Sum.inl _=>True|Sum.inr e=>e.1∈l):=by
  intro l;induction l with
  | nil=>exact trivial
  | cons x r ih =>
   rw [Z74_q6];simp only [Ab.on];cases hq:x.FName==n
   ·simp only [cond_false]
    revert ih
    cases Z74_q6 n r with
    | inl u=>intro _; exact trivial
    | inr e=>intro ih; exact .tail _ ih
   ·exact .head _
 have h:=this a.FFields.l
 revert h
 cases Z74_q6 n a.FFields.l with
 | inl u=>intro _; exact .inr ⟨rfl,rfl⟩
 | inr e=>intro h; exact .inl h
theorem field_args {f:Z7}(h:f.sz<=1048576):(∀x∈f.FArgs.l,x.FName.length<=1048576)/\f.FName.length<=1048576/\f.FType.FWraps.l.length<=1048576:=by
 have h1:=f.sz_def;have h2:=Bs.len_le f.FName;have h3:=f.FType.sz_def;have h4:=Sl.len_le (f:=fun _:Int=>1) f.FType.FWraps (fun _=>Nat.le_refl _);refine⟨fun x hx=>?_,by omega,by omega⟩;have h5:=Sl.mem_le (f:=Z9.sz) hx;have h6:=x.sz_def;have h7:=Bs.len_le x.FName;omega
theorem f43_tl (p:Bs) (hp:p.length<=10000000) (x:Z7×Bool):∀(l:List Z9) (s:Sl Z6),(∀y∈l,y.FName.length<=1048576)->s.l.length+l.length<=1000000->Tl (Z96_q43 p x l s) (s.l.length+l.length)
 | [],s,_,_=>⟨s,rfl,by simp⟩
 | y::l,s,hy,hs=>by
  have hn:=hy y (.head _);simp only [List.length_cons] at hs ⊢;rw [Z96_q43];simp only [Ab.on];have ih:∀v:Sl Z6,v.l.length<=s.l.length+1->Tl (Z96_q43 p x l v) (s.l.length+(l.length+1)):=fun v hv=>(f43_tl p hp x l v (fun z hz=>hy z (.tail _ hz)) (by omega)).mono (by omega);have more:Tl (Option.bind ((catC p ([40]:Bs)).bind fun x59=>(catC x59 y.FName).bind fun x61=>(catC x61 ([41]:Bs)).bind fun x62=>(appC 24 s (⟨false,[(Z6.mk (22:Int) x62)]⟩:Sl Z6)).bind fun x63=>some x63) fun v=>Z96_q43 p x l v) (s.l.length+(l.length+1)):=by
   rw [catC_ok (by simp; omega),Option.bind_some,catC_ok (by simp; omega),Option.bind_some,catC_ok (by simp; omega),Option.bind_some];exact(Tl.add1 (Nat.le_refl _) (by omega)).bind fun v hv=>ih v hv
  cases (Z76_q x.1.FArgs y.FName).2
  ·simp only [guardO,Bool.not_false,Bool.not_true,Bool.true_or,cond_true];exact more
  ·obtain⟨b,hb⟩:=same11_ok (Z76_q x.1.FArgs y.FName).1.FType y.FType;simp only [guardO,Bool.not_true,Bool.not_false,if_true,cond_true,Bool.false_or,hb,Option.bind_some];cases b
   ·exact more
   ·exact ih s (by omega)
theorem f20_tl (a:Z7) (p:Bs) (hp:p.length<=10000000):∀(l:List Z9) (s:Sl Z6),(∀y∈l,y.FName.length<=1048576)->s.l.length+l.length<=1000000->Tl (Z96_q20 a p l s) (s.l.length+l.length)
 | [],s,_,_=>⟨s,rfl,by simp⟩
 | y::l,s,hy,hs=>by
  have hn:=hy y (.head _);simp only [List.length_cons] at hs ⊢;rw [Z96_q20];simp only [Ab.on];have ih:∀v:Sl Z6,v.l.length<=s.l.length+1->Tl (Z96_q20 a p l v) (s.l.length+(l.length+1)):=fun v hv=>(f20_tl a p hp l v (fun z hz=>hy z (.tail _ hz)) (by omega)).mono (by omega);have both:∀w:Bool,Tl (Option.bind (bif w then((catC p ([40]:Bs)).bind fun x59=>(catC x59 y.FName).bind fun x61=>(catC x61 ([41]:Bs)).bind fun x62=>(appC 24 s (⟨false,[(Z6.mk (22:Int) x62)]⟩:Sl Z6)).bind fun x63=>some x63) else some s) fun v=>Z96_q20 a p l v) (s.l.length+(l.length+1)):=by
   intro w;cases w
   ·exact ih s (by omega)
   ·rw [cond_true,catC_ok (by simp; omega),Option.bind_some,catC_ok (by simp; omega),Option.bind_some,catC_ok (by simp; omega),Option.bind_some];exact(Tl.add1 (Nat.le_refl _) (by omega)).bind fun v hv=>ih v hv
  exact both _
theorem field_tl {d:TDoc}(hd:d.FDefs.l.length<=1048576){a:TDef}(ha:a.sz<=1048576) (hs:Sm a){f:Z7}(hf:f.sz<=1048576) (hfa:f.FArgs.l.length<=1000):Tl (Z96_q d a f) 2001:=by
 obtain⟨g1,g2,g3⟩:=field_args hf;have h1:=a.sz_def;have h2:=Bs.len_le a.FName;have hx:(∀y∈(Z74_q a f.FName).1.FArgs.l,y.FName.length<=1048576)/\(Z74_q a f.FName).1.FArgs.l.length<=1000/\(Z74_q a f.FName).1.FType.FWraps.l.length<=1048576:=by
  rcases fieldof_in a f.FName with h|⟨h,h'⟩
  ·have h5:=Sl.mem_le (f:=Z7.sz) h;obtain⟨k1,k2,k3⟩:=field_args (f:=(Z74_q a f.FName).1) (by omega);exact⟨k1,hs.2.2.2.2 _ h,k3⟩
  ·rw [h,h']; exact⟨fun _ h=>(by cases h),by simp,by simp⟩
 unfold Z96_q;rw [catC_ok (by simp; omega),Option.bind_some,catC_ok (by simp; omega),Option.bind_some];simp only [Ab.on];cases (Z74_q a f.FName).2
 ·exact⟨_,rfl,by simp⟩
 ·obtain⟨v,hv⟩:=sub_ok hd F0 (Z74_q a f.FName).1.FType f.FType (by rw [F0_eq]; omega) hx.2.2 g3;rw [Bool.not_true,cond_false,show Z95_q d (Z74_q a f.FName).1.FType f.FType=some v from hv,Option.bind_some];have first:∀w:Bool,Tl (bif w then((appC 24 (Sl.nil:Sl Z6) (⟨false,[(Z6.mk (10:Int) (a.FName++[46]++f.FName))]⟩:Sl Z6)).bind fun x67=>some x67) else(some (Sl.nil:Sl Z6))) 1:=by
   intro w;cases w
   ·exact⟨Sl.nil,rfl,by simp [Sl.nil]⟩
   ·exact Tl.add1 (s:=Sl.nil) (b:=0) (Nat.le_refl _) (by omega)
  refine(first (!v)).bind fun r hr=>?_;refine Tl.bind (a:=1001) ((f43_tl _ (by simp; omega) _ f.FArgs.l r g1 (by omega)).mono (by omega)) fun r2 hr2=>?_;refine Tl.bind (a:=2001) ((f20_tl f _ (by simp; omega) _ r2 hx.1 (by have:=hx.2.1; omega)).mono (by have:=hx.2.1; omega)) fun r3 hr3=>?_;exact⟨r3,rfl,hr3⟩
theorem o30_tl {d:TDoc}(hd:d.FDefs.l.length<=1048576){a:TDef}(ha:a.sz<=1048576) (hs:Sm a){T:Nat}(hT:T<=1099511627776):∀(l:List Z7) (s:Sl Z6),(∀f∈l,f.sz<=1048576/\f.FArgs.l.length<=1000)->s.l.length+2001*l.length<=T->Tl (Z101_q30 d a l s) (s.l.length+2001*l.length)
 | [],s,_,_=>⟨s,rfl,by simp⟩
 | f::l,s,hf,h=>by
  simp only [List.length_cons] at h ⊢;obtain⟨f1,f2⟩:=hf f (.head _);rw [Z101_q30];simp only [Ab.on];refine Tl.appG hT (field_tl hd ha hs f1 f2) (Nat.le_trans (Nat.add_le_add_left (Nat.le_mul_of_pos_right 2001 (Nat.succ_pos l.length)) s.l.length) h) fun r hr=>?_;exact(o30_tl hd ha hs hT l r (fun z hz=>hf z (.tail _ hz)) (by omega)).mono (by omega)
def AllSm (d:TDoc):Prop:=∀x∈d.FDefs.l,x.sz<=1048576/\Sm x
theorem found_sm {d:TDoc}(h:AllSm d) (n:Bs):(∀f∈(Z75_q d n).1.FFields.l,f.sz<=1048576/\f.FArgs.l.length<=1000)/\(Z75_q d n).1.FFields.l.length<=1000:=by
 have key:(Z75_q d n).1∈d.FDefs.l\/(Z75_q d n).1.FFields.l=[]:=by
  unfold Z75_q;simp only [Ab.on];have:∀l:List TDef,(match Z75_q6 n l with|Sum.inl _=>True|Sum.inr e=>e.1∈l):=by
   intro l;induction l with
   | nil=>exact trivial
   | cons a r ih =>
    rw [Z75_q6];simp only [Ab.on];cases hq:a.FName==n
    ·simp only [cond_false]
     revert ih
     cases Z75_q6 n r with
     | inl u=>intro _; exact trivial
     | inr e=>intro ih; exact .tail _ ih
    ·exact .head _
  have h:=this d.FDefs.l
  revert h
  cases Z75_q6 n d.FDefs.l with
  | inl u=>intro _; exact .inr rfl
  | inr e=>intro h; exact .inl h
 rcases key with hk|hk
 ·obtain⟨h1,h2⟩:=h _ hk;refine⟨fun f hf=>⟨?_,h2.2.2.2.2 f hf⟩,h2.1⟩;have h3:=Sl.mem_le (f:=Z7.sz) hf;have h4:=(Z75_q d n).1.sz_def;omega
 ·rw [hk]; exact⟨fun _ h=>(by cases h),by simp⟩
theorem obj_tl {d:TDoc}(hd:d.FDefs.l.length<=1048576) (hA:AllSm d){a:TDef}(ha:a.sz<=1048576) (hs:Sm a){T:Nat}(hT:T<=1099511627776):∀(l:List Bs) (i:Nat) (s:Sl Z6),s.l.length+2001000*l.length<=T->Tl (Z101_q7 d a l i s) (s.l.length+2001000*l.length)
 | [],i,s,_=>⟨s,rfl,by simp⟩
 | n::l,i,s,h=>by
  simp only [List.length_cons] at h ⊢;rw [Z101_q7];simp only [Ab.on];have ih:∀v:Sl Z6,v.l.length<=s.l.length+2001000->Tl (Z101_q7 d a l (i+1) v) (s.l.length+2001000*(l.length+1)):=fun v hv=>(obj_tl hd hA ha hs hT l (i+1) v (by omega)).mono (by omega);obtain⟨k1,k2⟩:=found_sm hA n;have both:∀(w:Bool) (e:Int),Tl (Option.bind (bif w then((appC 24 s (⟨false,[(Z6.mk e a.FName)]⟩:Sl Z6)).bind fun x25=>some x25) else(Option.bind (Z101_q30 d a (Z75_q d n).1.FFields.l s) fun s5_31=>some s5_31)) fun v=>Z101_q7 d a l (i+1) v) (s.l.length+2001000*(l.length+1)):=by
   intro w e;cases w
   ·obtain⟨r,r1,r2⟩:=o30_tl hd ha hs hT _ s k1 (by omega);rw [cond_false,r1];exact ih r (by omega)
   ·obtain⟨v,v1,v2⟩:=appG (s:=s) (r:=⟨false,[Z6.mk e a.FName]⟩) hT (by simp; omega);rw [cond_true,v1];exact ih v (by rw [v2]; simp)
  exact both _ _
theorem uni_tl {d:TDoc}{a:TDef}(ha:a.FName.length<=1048576){T:Nat}(hT:T<=1099511627776):∀(l:List Z10) (i:Nat) (s:Sl Z6),(∀m∈l,m.FName.length<=1048576)->s.l.length+l.length<=T->Tl (Z102_q7 d a l i s) (s.l.length+l.length)
 | [],i,s,_,_=>⟨s,rfl,by simp⟩
 | m::l,i,s,hm,h=>by
  have hn:=hm m (.head _);simp only [List.length_cons] at h ⊢;rw [Z102_q7];simp only [Ab.on];have ih:∀v:Sl Z6,v.l.length<=s.l.length+1->Tl (Z102_q7 d a l (i+1) v) (s.l.length+(l.length+1)):=fun v hv=>(uni_tl ha hT l (i+1) v (fun z hz=>hm z (.tail _ hz)) (by omega)).mono (by omega);have both:∀(w:Bool) (e:Int),Tl (Option.bind (bif w then((catC a.FName ([46]:Bs)).bind fun x24=>(catC x24 m.FName).bind fun x25=>(appC 24 s (⟨false,[(Z6.mk e x25)]⟩:Sl Z6)).bind fun x26=>some x26) else(some s)) fun v=>Z102_q7 d a l (i+1) v) (s.l.length+(l.length+1)):=by
   intro w e;cases w
   ·exact ih s (by omega)
   ·rw [cond_true,catC_ok (by simp; omega),Option.bind_some,catC_ok (by simp; omega),Option.bind_some];obtain⟨v,v1,v2⟩:=appG (s:=s) (r:=⟨false,[Z6.mk e (a.FName++[46]++m.FName)]⟩) hT (by simp; omega);rw [v1];exact ih v (by rw [v2]; simp)
  exact both _ _
end Go.Proofs

namespace Go.Proofs
open Go Go.Ab
theorem object_tl {d:TDoc}(hd:d.FDefs.l.length<=1048576) (hA:AllSm d){a:TDef}(ha:a.sz<=1048576) (hs:Sm a) (h6:a.FImplements.l.length<=600):Tl (Z101_q d a) 1200600000:=by
 unfold Z101_q;have h1:2001000*a.FImplements.l.length<=2001000*600:=Nat.mul_le_mul_left _ h6;obtain⟨r,e1,e2⟩:=obj_tl hd hA ha hs (T:=1099511627776) (Nat.le_refl _) a.FImplements.l 0 Sl.nil (by
  show 0+2001000*a.FImplements.l.length<=_;rw [Nat.zero_add];exact Nat.le_trans h1 (by decide))
 rw [e1];refine⟨r,rfl, ?_⟩;rw [show (Sl.nil:Sl Z6).l.length=0 from rfl,Nat.zero_add] at e2;exact Nat.le_trans e2 h1
theorem union_tl {d:TDoc}{a:TDef}(ha:a.sz<=1048576) (hs:Sm a):Tl (Z102_q d a) 1200600000:=by
 unfold Z102_q;have h1:=a.sz_def;have h2:=Bs.len_le a.FName;have h3:=hs.2.1;obtain⟨r,e1,e2⟩:=uni_tl (d:=d) (a:=a) (by omega) (T:=1000) (by decide) a.FMembers.l 0 Sl.nil (fun m hm=>by
  have h5:=Sl.mem_le (f:=Z10.sz) hm;have h6:=m.sz_def;have h7:=Bs.len_le m.FName;omega) (by simp only [Sl.nil,List.length_nil]; omega)
 rw [e1];refine⟨r,rfl, ?_⟩;simp only [Sl.nil,List.length_nil] at e2;omega
theorem faces_loop {d:TDoc}{C T:Nat}(hT:T<=1099511627776):∀(l:List TDef) (s:Sl Z6),(∀a∈l,Tl (Z101_q d a) C/\Tl (Z102_q d a) C)->s.l.length+C*l.length<=T->Tl (Z92_q7 d l s) (s.l.length+C*l.length)
 | [],s,_,_=>⟨s,rfl,by simp⟩
 | a::l,s,hC,h=>by
  obtain⟨c1,c2⟩:=hC a (.head _);rw [List.length_cons,Nat.mul_succ] at h;rw [List.length_cons,Nat.mul_succ];rw [Z92_q7];simp only [Ab.on];have hs:s.l.length+C<=T:=Nat.le_trans (by generalize C*l.length=m; omega) h;have ih:∀v:Sl Z6,v.l.length<=s.l.length+C->Tl (Z92_q7 d l v) (s.l.length+(C*l.length+C)):=fun v hv=>by
   refine(faces_loop hT l v (fun z hz=>hC z (.tail _ hz)) ?_).mono ?_
   ·clear hT; revert h; generalize C*l.length=m; intro h; omega
   ·clear hT; revert h; generalize C*l.length=m; intro h; omega
  have both:∀{o:Option (Sl Z6)},Tl o C->Tl (Option.bind (o.bind fun x21=>(appC 24 s x21).bind fun x22=>some x22) fun v=>Z92_q7 d l v) (s.l.length+(C*l.length+C)):=by
   intro o ho;refine Tl.bind (a:=s.l.length+C) (Tl.appG hT ho hs fun r hr=>⟨r,rfl,hr⟩) fun v hv=>ih v hv
  cases decide (a.FKind=1)
  ·cases decide (a.FKind=3)
   ·exact ih s (by omega)
   ·exact both c2
  ·exact both c1
theorem faces_tl {d:TDoc}(hd:d.sz<=1048576) (h:d.FDefs.l.length<=600/\∀x∈d.FDefs.l,Sm x/\x.FImplements.l.length<=600):∃r,Z92_q d=some r/\r.l.length<=1000000000000:=by
 have hA:AllSm d:=fun x hx=>by
  have h1:=d.sz_def;have h5:=Sl.mem_le (f:=TDef.sz) hx;exact⟨by omega,(h.2 x hx).1⟩
 have h70:1200600000*d.FDefs.l.length<=1200600000*600:=Nat.mul_le_mul_left _ h.1;obtain⟨r,e,hl⟩:=faces_loop (d:=d) (C:=1200600000) (T:=1099511627776) (Nat.le_refl _) d.FDefs.l Sl.nil (fun a ha=>⟨object_tl (by omega) hA (hA a ha).1 (hA a ha).2 (h.2 a ha).2,union_tl (hA a ha).1 (hA a ha).2⟩) (by
  show 0+1200600000*d.FDefs.l.length<=_;rw [Nat.zero_add];exact Nat.le_trans h70 (by decide))
 unfold Z92_q;rw [e];refine⟨r,rfl, ?_⟩;rw [show (Sl.nil:Sl Z6).l.length=0 from rfl,Nat.zero_add] at hl;exact Nat.le_trans hl (Nat.le_trans h70 (by decide))
end Go.Proofs

namespace Go.Proofs
open Go Go.Ab
theorem Z54_loop (a:TRef) (ha:a.FWraps.l.length<=1048576) (l:List Int) (i:Nat) (h:i+l.length=a.FWraps.l.length):Ok (Z54_q10 a l i):=by
 induction l generalizing i with
 | nil=>exact Tot.some _
 | cons x r ih =>
  simp only [List.length_cons] at h;have hr:=ih (i+1) (by omega);rw [Z54_q10];simp only [on];refine Tot.cond (fun _=>Tot.some _) fun _=>?_;by_cases hi:0<i
  ·have h1:decide ((0:Int)<((i:Nat):Int))=true:=by simpa using hi
   obtain⟨v,hv⟩:=idxC_ok (l:=a.FWraps.l) (n:=(i:Int)-1) (by omega);simp only [h1,cond_true,Bool.true_and,subC_ok (a:=(i:Int)) (b:=1) (by omega)];cases decide (x=1)<;>simp only [guardO,hv,if_true,Option.bind_some,Bool.false_eq_true,if_false,Bool.false_and,cond_false]
   ·exact hr
   ·(repeat' (first|exact Tot.some _|assumption|(with_reducible refine Tot.bind ?_ fun _ _=>?_)|(with_reducible refine Tot.guard (fun _=>?_) fun _ _ _=>?_)|(with_reducible refine Tot.cond (fun _=>?_) fun _=>?_)|(with_reducible refine Tot.on fun _ _=>?_)|split))
  ·have h1:decide ((0:Int)<((i:Nat):Int))=false:=by simpa using hi
   simp only [h1,Bool.false_and,guardO,Bool.false_eq_true,if_false,cond_false];exact hr
theorem Z54_ok (a:TRef) (ha:a.FWraps.l.length<=1048576):Ok (Z54_q a):=by
 unfold Z54_q
 (repeat' (first|exact Tot.some _|assumption|(with_reducible refine Tot.bind ?_ fun _ _=>?_)|(with_reducible refine Tot.guard (fun _=>?_) fun _ _ _=>?_)|(with_reducible refine Tot.cond (fun _=>?_) fun _=>?_)|(with_reducible refine Tot.on fun _ _=>?_)|split))
 exact Z54_loop a ha _ _ (by simp)
theorem Z45_loop (k:Z12->Option Int) (l:List Z12) (s:Int) (hk:∀x∈l,∃r,k x=some r/\1<=r/\r<=x.sz) (hs:0<=s) (hb:s+((l.map Z12.sz).sum:Nat)<=1152921504606846976):∃r,Z45_q7 k l s=some r/\s<=r/\r<=s+((l.map Z12.sz).sum:Nat):=by
 induction l generalizing s with
 | nil=>exact⟨s,rfl,by simp,by simp⟩
 | cons x r ih =>
  obtain⟨v,h1,h2,h3⟩:=hk x List.mem_cons_self;simp only [List.map_cons,List.sum_cons] at hb ⊢;rw [Z45_q7];simp only [on,h1,Option.bind_some];rw [addC_ok (by omega)];simp only [Option.bind_some];obtain⟨w,h4,h5,h6⟩:=ih (s+v) (fun y hy=>hk y (List.mem_cons_of_mem _ hy)) (by omega) (by omega);exact⟨w,h4,by omega,by omega⟩
theorem Z12.item_lt {v x:Z12}(h:x∈v.FItems.l):x.sz<v.sz:=by
 have h1:=v.sz_def; have h2:=Sl.mem_le (f:=Z12.sz) h; omega
theorem Z12.items_sum (v:Z12):2+(v.FItems.l.map Z12.sz).sum<=v.sz:=by
 have h1:=v.sz_def; have h2:Sl.sz Z12.sz v.FItems=1+(v.FItems.l.map Z12.sz).sum:=rfl; omega
theorem Z45_tot (n:Nat):∀v:Z12,v.sz<n->v.sz<=1073741824->∃r,Z45_qn n v=some r/\1<=r/\r<=v.sz:=by
 induction n with
 | zero=>intro v h; omega
 | succ n ih =>
  intro v h hb;have h0:=v.items_sum;obtain⟨w,h4,h5,h6⟩:=Z45_loop (Z45_qn n) v.FItems.l 1 (fun x hx=>by have:=Z12.item_lt hx; exact ih x (by omega) (by omega)) (by omega) (by omega);rw [Z45_qn,h4];exact⟨w,rfl,by omega,by omega⟩
theorem Z45_ok (v:Z12) (h:v.sz<=1048576):∃r,Z45_q v=some r/\1<=r/\r<=v.sz:=Z45_tot F0 v (by rw [F0_eq]; omega) (by omega)
theorem Z42_loop (k:Z12->Option Int) (l:List Z12) (s b:Int) (hk:∀x∈l,∃r,k x=some r/\1<=r/\r<=b) (hs:0<=s/\s<=b):∃r,Z42_q8 k l s=some r/\0<=r/\r<=b:=by
 induction l generalizing s with
 | nil=>exact⟨s,rfl,by omega,by omega⟩
 | cons x r ih =>
  obtain⟨v,h1,h2,h3⟩:=hk x List.mem_cons_self;rw [Z42_q8];simp only [on,h1,Option.bind_some];exact ih _ (fun y hy=>hk y (List.mem_cons_of_mem _ hy)) (by split<;>omega)
theorem Z42_tot (n:Nat):∀v:Z12,v.sz<n->v.sz<=1073741824->∃r,Z42_qn n v=some r/\1<=r/\r<=v.sz:=by
 induction n with
 | zero=>intro v h; omega
 | succ n ih =>
  intro v h hb;have h0:=v.items_sum;obtain⟨w,h4,h5,h6⟩:=Z42_loop (Z42_qn n) v.FItems.l 0 (v.sz-1:Nat) (fun x hx=>by have:=Z12.item_lt hx; obtain⟨r,h7,h8,h9⟩:=ih x (by omega) (by omega); exact⟨r,h7,h8,by omega⟩) (by omega);rw [Z42_qn,h4];simp only [on,Option.bind_some];rw [addC_ok (by omega)];exact⟨w+1,rfl,by omega,by omega⟩
theorem Z42_ok (v:Z12) (h:v.sz<=1048576):Ok (Z42_q v):=by
 obtain⟨r,hr,_⟩:=Z42_tot F0 v (by rw [F0_eq]; omega) (by omega); exact⟨r,hr⟩
theorem Z48_in (a:Sl Bs) (x:Bs) (m i:Nat) (h:i+m<=a.l.length):Ok (Z48_q13 a x m i):=by
 induction m generalizing i with
 | zero=>exact Tot.some _
 | succ m ih =>
  rw [Z48_q13]
  (repeat' (first|exact Tot.some _|assumption|(with_reducible refine Tot.bind ?_ fun _ _=>?_)|(with_reducible refine Tot.guard (fun _=>?_) fun _ _ _=>?_)|(with_reducible refine Tot.cond (fun _=>?_) fun _=>?_)|(with_reducible refine Tot.on fun _ _=>?_)|split))
  ·exact get_ok (by omega)
  ·exact ih _ (by omega)
theorem Z48_out (a:Sl Bs) (l:List Bs) (i:Nat) (h:i+l.length=a.l.length):Ok (Z48_q5 a l i):=by
 induction l generalizing i with
 | nil=>exact Tot.some _
 | cons x r ih =>
  simp only [List.length_cons] at h;rw [Z48_q5]
  (repeat' (first|exact Tot.some _|assumption|(with_reducible refine Tot.bind ?_ fun _ _=>?_)|(with_reducible refine Tot.guard (fun _=>?_) fun _ _ _=>?_)|(with_reducible refine Tot.cond (fun _=>?_) fun _=>?_)|(with_reducible refine Tot.on fun _ _=>?_)|split))
  ·exact Z48_in a x _ _ (by omega)
  ·exact ih _ (by omega)
theorem Z48_ok (a:Sl Bs):Ok (Z48_q a):=by
 unfold Z48_q
 (repeat' (first|exact Tot.some _|assumption|(with_reducible refine Tot.bind ?_ fun _ _=>?_)|(with_reducible refine Tot.guard (fun _=>?_) fun _ _ _=>?_)|(with_reducible refine Tot.cond (fun _=>?_) fun _=>?_)|(with_reducible refine Tot.on fun _ _=>?_)|split))
 exact Z48_out a _ _ (by simp)
theorem Z47_ok (v:Z12) (b:Bool):Ok (Z47_q v b):=by
 unfold Z47_q
 (repeat' (first|exact Tot.some _|assumption|(with_reducible refine Tot.bind ?_ fun _ _=>?_)|(with_reducible refine Tot.guard (fun _=>?_) fun _ _ _=>?_)|(with_reducible refine Tot.cond (fun _=>?_) fun _=>?_)|(with_reducible refine Tot.on fun _ _=>?_)|split))
 exact Z48_ok _
theorem Z49_loop (b:Bool) (k:Z12->Bool->Option Bool) (l:List Z12) (hk:∀x∈l,Ok (k x b)):Ok (Z49_q11 b k l):=by
 induction l with
 | nil=>exact Tot.some _
 | cons x r ih =>
  rw [Z49_q11]
  (repeat' (first|exact Tot.some _|assumption|(with_reducible refine Tot.bind ?_ fun _ _=>?_)|(with_reducible refine Tot.guard (fun _=>?_) fun _ _ _=>?_)|(with_reducible refine Tot.cond (fun _=>?_) fun _=>?_)|(with_reducible refine Tot.on fun _ _=>?_)|split))
  ·rename_i h; rw [h]; exact hk x List.mem_cons_self
  ·exact ih fun y hy=>hk y (List.mem_cons_of_mem _ hy)
theorem Z49_tot (n:Nat):∀(v:Z12) (b:Bool),v.sz<n->Ok (Z49_qn n v b):=by
 induction n with
 | zero=>intro v b h; omega
 | succ n ih =>
  intro v b h;rw [Z49_qn]
  (repeat' (first|exact Tot.some _|assumption|(with_reducible refine Tot.bind ?_ fun _ _=>?_)|(with_reducible refine Tot.guard (fun _=>?_) fun _ _ _=>?_)|(with_reducible refine Tot.cond (fun _=>?_) fun _=>?_)|(with_reducible refine Tot.on fun _ _=>?_)|split))
  ·exact Z47_ok _ _
  ·exact Z49_loop b _ _ fun x hx=>ih x b (by have:=Z12.item_lt hx; omega)
theorem Z44_ok (v:Z12) (h:v.sz<=1048576):Ok (Z44_q v):=by
 unfold Z44_q;obtain⟨r,hr,_⟩:=Z45_ok v h
 (repeat' (first|exact Tot.some _|assumption|(with_reducible refine Tot.bind ?_ fun _ _=>?_)|(with_reducible refine Tot.guard (fun _=>?_) fun _ _ _=>?_)|(with_reducible refine Tot.cond (fun _=>?_) fun _=>?_)|(with_reducible refine Tot.on fun _ _=>?_)|split))
 ·exact⟨r,hr⟩
 ·exact Z42_ok v h
 ·exact Z49_tot F0 v true (by rw [F0_eq]; omega)
theorem Z59_loop (k:Z12->Option Bool) (l:List Z12) (hk:∀x∈l,Ok (k x)):Ok (Z59_q5 k l):=by
 induction l with
 | nil=>exact Tot.some _
 | cons x r ih =>
  rw [Z59_q5]
  (repeat' (first|exact Tot.some _|assumption|(with_reducible refine Tot.bind ?_ fun _ _=>?_)|(with_reducible refine Tot.guard (fun _=>?_) fun _ _ _=>?_)|(with_reducible refine Tot.cond (fun _=>?_) fun _=>?_)|(with_reducible refine Tot.on fun _ _=>?_)|split))
  ·rename_i h; rw [h]; exact hk x List.mem_cons_self
  ·exact ih fun y hy=>hk y (List.mem_cons_of_mem _ hy)
theorem Z59_tot (n:Nat):∀(v:Z12),v.sz<n->Ok (Z59_qn n v):=by
 induction n with
 | zero=>intro v h; omega
 | succ n ih =>
  intro v h;rw [Z59_qn]
  (repeat' (first|exact Tot.some _|assumption|(with_reducible refine Tot.bind ?_ fun _ _=>?_)|(with_reducible refine Tot.guard (fun _=>?_) fun _ _ _=>?_)|(with_reducible refine Tot.cond (fun _=>?_) fun _=>?_)|(with_reducible refine Tot.on fun _ _=>?_)|split))
  exact Z59_loop _ _ fun x hx=>ih x (by have:=Z12.item_lt hx; omega)
theorem Z59_ok (v:Z12) (h:v.sz<=1048576):Ok (Z59_q v):=Z59_tot F0 v (by rw [F0_eq]; omega)
theorem TArg.value_le (a:TArg):a.FValue.sz<=a.sz:=by have:=a.sz_def; omega
theorem TDir.arg_le {x:TDir}{a:TArg}(h:a∈x.FArgs.l):a.sz<=x.sz:=by have:=x.sz_def; have:=Sl.mem_le (f:=TArg.sz) h; omega
theorem Z61_in (h10:TDir) (l:List TArg) (h:∀a∈l,a.sz<=1048576):Ok (Z61_q25 h10 l):=by
 induction l with
 | nil=>exact Tot.some _
 | cons x r ih =>
  have h1:=h x List.mem_cons_self; have h2:=x.value_le;rw [Z61_q25]
  (repeat' (first|exact Tot.some _|assumption|(with_reducible refine Tot.bind ?_ fun _ _=>?_)|(with_reducible refine Tot.guard (fun _=>?_) fun _ _ _=>?_)|(with_reducible refine Tot.cond (fun _=>?_) fun _=>?_)|(with_reducible refine Tot.on fun _ _=>?_)|split))
  all_goals first|exact ih fun y hy=>h y (List.mem_cons_of_mem _ hy)|(subst_vars; first|exact Z44_ok _ (by omega)|exact Z59_ok _ (by omega))
theorem Z61_loop (l:List TDir) (h:∀a∈l,a.sz<=1048576):Ok (Z61_q10 l):=by
 induction l with
 | nil=>exact Tot.some _
 | cons x r ih =>
  have h1:=h x List.mem_cons_self;rw [Z61_q10]
  (repeat' (first|exact Tot.some _|assumption|(with_reducible refine Tot.bind ?_ fun _ _=>?_)|(with_reducible refine Tot.guard (fun _=>?_) fun _ _ _=>?_)|(with_reducible refine Tot.cond (fun _=>?_) fun _=>?_)|(with_reducible refine Tot.on fun _ _=>?_)|split))
  ·exact Z61_in x _ fun a ha=>by have:=TDir.arg_le ha; omega
  ·exact ih fun y hy=>h y (List.mem_cons_of_mem _ hy)
theorem Z61_ok (s:Sl TDir) (h:Sl.sz TDir.sz s<=1048576):Ok (Z61_q s):=by
 unfold Z61_q
 (repeat' (first|exact Tot.some _|assumption|(with_reducible refine Tot.bind ?_ fun _ _=>?_)|(with_reducible refine Tot.guard (fun _=>?_) fun _ _ _=>?_)|(with_reducible refine Tot.cond (fun _=>?_) fun _=>?_)|(with_reducible refine Tot.on fun _ _=>?_)|split))
 exact Z61_loop _ fun a ha=>by have:=Sl.mem_le (f:=TDir.sz) ha; omega
theorem TRef.wraps_le (r:TRef):r.FWraps.l.length<=r.sz:=by have:=r.sz_def; have:=Sl.len_le (f:=fun _:Int=>1) r.FWraps (fun _=>Nat.le_refl _); omega
theorem Z63_loop (l:List Z9) (h:∀a∈l,a.sz<=1048576):Ok (Z63_q10 l):=by
 induction l with
 | nil=>exact Tot.some _
 | cons x r ih =>
  have h1:=h x List.mem_cons_self; have h2:=x.sz_def; have h3:=x.FType.wraps_le;rw [Z63_q10]
  (repeat' (first|exact Tot.some _|assumption|(with_reducible refine Tot.bind ?_ fun _ _=>?_)|(with_reducible refine Tot.guard (fun _=>?_) fun _ _ _=>?_)|(with_reducible refine Tot.cond (fun _=>?_) fun _=>?_)|(with_reducible refine Tot.on fun _ _=>?_)|split))
  all_goals first|exact ih fun y hy=>h y (List.mem_cons_of_mem _ hy)|(subst_vars; first|exact Z54_ok _ (by omega)|exact Z61_ok _ (by omega)|exact Z44_ok _ (by omega)|exact Z59_ok _ (by omega))
theorem Z63_ok (s:Sl Z9) (h:Sl.sz Z9.sz s<=1048576):Ok (Z63_q s):=by
 unfold Z63_q
 (repeat' (first|exact Tot.some _|assumption|(with_reducible refine Tot.bind ?_ fun _ _=>?_)|(with_reducible refine Tot.guard (fun _=>?_) fun _ _ _=>?_)|(with_reducible refine Tot.cond (fun _=>?_) fun _=>?_)|(with_reducible refine Tot.on fun _ _=>?_)|split))
 exact Z63_loop _ fun a ha=>by have:=Sl.mem_le (f:=Z9.sz) ha; omega
theorem Z62_loop (l:List Z7) (h:∀a∈l,a.sz<=1048576):Ok (Z62_q10 l):=by
 induction l with
 | nil=>exact Tot.some _
 | cons x r ih =>
  have h1:=h x List.mem_cons_self; have h2:=x.sz_def; have h3:=x.FType.wraps_le;have hz:Z7.zero.FType.FWraps.l.length<=1048576:=by decide
  rw [Z62_q10];simp only [on];cases Z37_q x.FName<;>simp only [Bool.not_true,Bool.not_false,cond_true,cond_false,Bool.or_false,Bool.or_true,Bool.true_or,Bool.false_or]
  ·simp [guardO]; exact Tot.some _
  ·obtain⟨b1,e1⟩:=Z63_ok x.FArgs (by omega);obtain⟨b2,e2⟩:=Z54_ok x.FType (by omega);obtain⟨b3,e3⟩:=Z61_ok x.FDirs (by omega);have hr:=ih fun y hy=>h y (List.mem_cons_of_mem _ hy);cases b1<;>cases b2<;>cases b3<;>simp [guardO,e1,e2,e3]<;>first|exact Tot.some _|exact hr
theorem Z62_ok (s:Sl Z7) (h:Sl.sz Z7.sz s<=1048576):Ok (Z62_q s):=by
 unfold Z62_q
 (repeat' (first|exact Tot.some _|assumption|(with_reducible refine Tot.bind ?_ fun _ _=>?_)|(with_reducible refine Tot.guard (fun _=>?_) fun _ _ _=>?_)|(with_reducible refine Tot.cond (fun _=>?_) fun _=>?_)|(with_reducible refine Tot.on fun _ _=>?_)|split))
 exact Z62_loop _ fun a ha=>by have:=Sl.mem_le (f:=Z7.sz) ha; omega
theorem Z64_loop (b:Bool) (l:List Z10) (h:∀a∈l,a.sz<=1048576):Ok (Z64_q10 b l):=by
 induction l with
 | nil=>exact Tot.some _
 | cons x r ih =>
  have h1:=h x List.mem_cons_self; have h2:=x.sz_def;rw [Z64_q10];simp only [on];cases Z37_q x.FName<;>simp only [Bool.not_true,Bool.not_false,cond_true,cond_false,Bool.or_false,Bool.or_true,Bool.true_or,Bool.false_or]
  ·simp [guardO]; exact Tot.some _
  ·obtain⟨b3,e3⟩:=Z61_ok x.FDirs (by omega);have hr:=ih fun y hy=>h y (List.mem_cons_of_mem _ hy);simp only [guardO,e3,if_true,Option.bind_some]
   (repeat' (first|exact Tot.some _|assumption|(with_reducible refine Tot.bind ?_ fun _ _=>?_)|(with_reducible refine Tot.guard (fun _=>?_) fun _ _ _=>?_)|(with_reducible refine Tot.cond (fun _=>?_) fun _=>?_)|(with_reducible refine Tot.on fun _ _=>?_)|split))
theorem Z64_ok (s:Sl Z10) (b:Bool) (h:Sl.sz Z10.sz s<=1048576):Ok (Z64_q s b):=by
 unfold Z64_q
 (repeat' (first|exact Tot.some _|assumption|(with_reducible refine Tot.bind ?_ fun _ _=>?_)|(with_reducible refine Tot.guard (fun _=>?_) fun _ _ _=>?_)|(with_reducible refine Tot.cond (fun _=>?_) fun _=>?_)|(with_reducible refine Tot.on fun _ _=>?_)|split))
 exact Z64_loop _ _ fun a ha=>by have:=Sl.mem_le (f:=Z10.sz) ha; omega
theorem Z60_ok (x:TDef) (h:x.sz<=1048576):Ok (Z60_q x):=by
 have h2:=x.sz_def;unfold Z60_q
 (repeat' (first|exact Tot.some _|assumption|(with_reducible refine Tot.bind ?_ fun _ _=>?_)|(with_reducible refine Tot.guard (fun _=>?_) fun _ _ _=>?_)|(with_reducible refine Tot.cond (fun _=>?_) fun _=>?_)|(with_reducible refine Tot.on fun _ _=>?_)|split))
 all_goals first|exact Z61_ok _ (by omega)|exact Z62_ok _ (by omega)|exact Z64_ok _ _ (by omega)|exact Z63_ok _ (by omega)
theorem Z58_loop (l:List TDef) (h:∀a∈l,a.sz<=1048576):Ok (Z58_q10 l):=by
 induction l with
 | nil=>exact Tot.some _
 | cons x r ih =>
  rw [Z58_q10]
  (repeat' (first|exact Tot.some _|assumption|(with_reducible refine Tot.bind ?_ fun _ _=>?_)|(with_reducible refine Tot.guard (fun _=>?_) fun _ _ _=>?_)|(with_reducible refine Tot.cond (fun _=>?_) fun _=>?_)|(with_reducible refine Tot.on fun _ _=>?_)|split))
  ·subst_vars; exact Z60_ok _ (h _ List.mem_cons_self)
  ·exact ih fun y hy=>h y (List.mem_cons_of_mem _ hy)
theorem TDoc.def_le {d:TDoc}{x:TDef}(h:x∈d.FDefs.l):x.sz<=d.sz:=by have:=d.sz_def; have:=Sl.mem_le (f:=TDef.sz) h; omega
theorem Z58_ok (d:TDoc) (h:d.sz<=1048576):Ok (Z58_q d):=by
 unfold Z58_q
 (repeat' (first|exact Tot.some _|assumption|(with_reducible refine Tot.bind ?_ fun _ _=>?_)|(with_reducible refine Tot.guard (fun _=>?_) fun _ _ _=>?_)|(with_reducible refine Tot.cond (fun _=>?_) fun _=>?_)|(with_reducible refine Tot.on fun _ _=>?_)|split))
 exact Z58_loop _ fun a ha=>by have:=TDoc.def_le ha; omega
end Go.Proofs

namespace Go.Proofs
open Go Go.Ab
end Go.Proofs

namespace Go.Proofs
open Go Go.Ab
theorem dlen:∀(f u:Nat),u<10 ^ f->(Lib.decDigits u).length<=f+1:=by
 intro f;induction f with
 | zero =>
  intro u hu;have:u=0:=by simpa using hu
  subst this; rw [Lib.decDigits]; simp
 | succ f ih =>
  intro u hu;rw [Lib.decDigits]
  split
  ·simp
  ·have:=ih (u / 10) (by rw [Nat.pow_succ] at hu; omega);simp; omega
theorem dlen20 {u:Nat}(h:u<=9223372036854775808):(Lib.decDigits u).length<=21:=dlen 20 u (by omega)
theorem itoaLen {n:Int}(h0 : -9223372036854775808<=n) (h1:n<=9223372036854775807):(Lib.itoa n).length<=22:=by
 unfold Lib.itoa
 split
 ·have:=dlen20 (u:=n.natAbs) (by omega); simp; omega
 ·have:=dlen20 (u:=n.toNat) (by omega); omega
theorem textDecimal_eq {n:Int}(h0 : -9223372036854775808<=n) (h1:n<=9223372036854775807):Z133_q n=some (Lib.itoa n):=by
 unfold Z133_q Z126_q Z126;rw [if_pos ⟨h0,h1,by have:=itoaLen h0 h1; unfold maxS; omega⟩]; rfl
theorem all_u8 {p:UInt8->Prop}(h:∀i:Fin 256,p (UInt8.ofNat i.val)) (c:UInt8):p c:=by
 have:=h ⟨c.toNat,c.toNat_lt⟩
 simpa using this
def hx (n:Nat):UInt8:=if n<10 then UInt8.ofNat (48+n) else UInt8.ofNat (87+n)
def esc (c:UInt8):Bs:=if c=34 then [92,34] else if c=92 then [92,92] else if c=10 then [92,110] else if c=13 then [92,114] else if c=9 then [92,116] else if 32<=c.toNat/\c.toNat<=126 then [c] else [92,117,48,48,hx (c.toNat / 16),hx (c.toNat % 16)]
def qt (s:Bs):Bs:=34::(s.flatMap esc++[34])
theorem esc_len (c:UInt8):(esc c).length<=6:=by
 unfold esc; (repeat' split);all_goals simp
theorem flat_len (s:Bs):(s.flatMap esc).length<=6*s.length:=by
 induction s with
 | nil=>simp
 | cons a r ih=>have:=esc_len a; simp only [List.flatMap_cons,List.length_append,List.length_cons]; omega
theorem qt_len (s:Bs):(qt s).length<=6*s.length+2:=by have:=flat_len s; simp only [qt,List.length_append,List.length_cons,List.length_nil]; omega
def bb (l:Bs):Strings_Builder:=⟨true,⟨false,l.map fun b=>(b.toNat:Int)⟩⟩
theorem bb_len (l:Bs):(bb l).Fbuf.l.length=l.length:=by simp [bb]
theorem wb_eq (l:Bs) (c:UInt8) (h:l.length<=1099511627000):Z128_q (bb l) ((c.toNat:Nat):Int)=some ((),bb (l++[c])):=by
 unfold Z128_q Z130_q;rw [Option.bind_some,appC_ok (by decide) (by show (bb l).Fbuf.l.length+1<=_; rw [bb_len]; omega),Option.bind_some];simp [bb]
theorem ws_eq (l s:Bs) (h:l.length+s.length<=1099511627000):∃k,Z129_q (bb l) s=some (k,(),bb (l++s)):=by
 unfold Z129_q Z130_q;rw [Option.bind_some,appC_ok (by decide) (by show (bb l).Fbuf.l.length+_<=_; rw [bb_len,strSl_len]; omega),Option.bind_some];exact⟨(s.length:Nat),by simp [bb,strSl]⟩
theorem str_eq (l:Bs) (h:l≠[]):Z127_q (bb l)=some l:=by
 unfold Z127_q bldStr;have h1:(bb l).Fbuf.l.all (fun n=>decide (0<=n/\n<256))=true:=by
  rw [List.all_eq_true];intro x hx;obtain⟨b,_,rfl⟩:=List.mem_map.1 hx;have:=b.toNat_lt;exact decide_eq_true ⟨by omega,by omega⟩
 rw [if_pos ⟨h1,.inr ⟨rfl,by simp [bb,h]⟩⟩];have:bytesC (bb l).Fbuf=l:=by
  unfold bytesC bb;rw [List.map_map];conv=>rhs; rw [<- List.map_id l]
  refine List.map_congr_left fun b _=>?_;simp
 rw [this]
theorem hexHi (c:UInt8):idxC ([48,49,50,51,52,53,54,55,56,57,97,98,99,100,101,102]:Bs) (Int.fdiv ((c.toNat:Nat):Int) (2 ^ (min (Int.toNat 4) (IntKind.bits .u8))))=some (hx (c.toNat / 16)):=by
 revert c
 apply all_u8
 decide +kernel
theorem hexLo (c:UInt8):idxC ([48,49,50,51,52,53,54,55,56,57,97,98,99,100,101,102]:Bs) (IntKind.wrap .u8 ((BitVec.ofInt (IntKind.bits .u8) ((c.toNat:Nat):Int) &&& BitVec.ofInt (IntKind.bits .u8) (15:Int)).toNat:Int))=some (hx (c.toNat % 16)):=by
 revert c
 apply all_u8
 decide +kernel
theorem u8_ne {c d:UInt8}:decide (((c.toNat:Nat):Int)=((d.toNat:Nat):Int))=decide (c=d):=by
 by_cases h:c=d
 ·subst h; simp
 ·rw [decide_eq_false h,decide_eq_false];intro e; exact h (UInt8.toNat_inj.1 (by omega))
theorem tquote_loop:∀(s:Bs) (o:Bs),o.length+6*s.length<=1099511626000->Z134_q15 s (bb o)=some (bb (o++s.flatMap esc)):=by
 intro s;induction s with
 | nil=>intro o _; simp [Z134_q15]
 | cons a r ih =>
  intro o h;have hel:=esc_len a;simp only [List.length_cons] at h;have fin:∀x:Bs,x=esc a->Z134_q15 r (bb (o++x))=some (bb (o++(a::r).flatMap esc)):=by
   rintro _ rfl;rw [ih _ (by simp; omega)]; simp
  have e34:=u8_ne (c:=a) (d:=34); have e92:=u8_ne (c:=a) (d:=92); have e10:=u8_ne (c:=a) (d:=10); have e13:=u8_ne (c:=a) (d:=13); have e9:=u8_ne (c:=a) (d:=9);rw [Z134_q15];simp only [Ab.on];rw [show (34:Int)=(((34:UInt8).toNat:Nat):Int) from rfl,e34,show (92:Int)=(((92:UInt8).toNat:Nat):Int) from rfl,e92,show (10:Int)=(((10:UInt8).toNat:Nat):Int) from rfl,e10,show (13:Int)=(((13:UInt8).toNat:Nat):Int) from rfl,e13,show (9:Int)=(((9:UInt8).toNat:Nat):Int) from rfl,e9]
  by_cases c1:a=34
  ·rw [decide_eq_true c1,cond_true,cond_true,wb_eq _ _ (by omega),Option.bind_some,wb_eq _ _ (by simp; omega),Option.bind_some,Option.bind_some];simp only [List.append_assoc];exact fin _ (by rw [c1]; rfl)
  rw [decide_eq_false c1,cond_false];by_cases c2:a=92
  ·rw [decide_eq_true c2,cond_true,wb_eq _ _ (by omega),Option.bind_some,wb_eq _ _ (by simp; omega),Option.bind_some,Option.bind_some];simp only [List.append_assoc];exact fin _ (by rw [c2]; rfl)
  rw [decide_eq_false c2,cond_false];by_cases c3:a=10
  ·obtain⟨k,e⟩:=ws_eq o [92,110] (by simp; omega);rw [decide_eq_true c3,cond_true,e,Option.bind_some,Option.bind_some];exact fin _ (by rw [c3]; rfl)
  rw [decide_eq_false c3,cond_false];by_cases c4:a=13
  ·obtain⟨k,e⟩:=ws_eq o [92,114] (by simp; omega);rw [decide_eq_true c4,cond_true,e,Option.bind_some,Option.bind_some];exact fin _ (by rw [c4]; rfl)
  rw [decide_eq_false c4,cond_false];by_cases c5:a=9
  ·obtain⟨k,e⟩:=ws_eq o [92,116] (by simp; omega);rw [decide_eq_true c5,cond_true,e,Option.bind_some,Option.bind_some];exact fin _ (by rw [c5]; rfl)
  rw [decide_eq_false c5,cond_false];have he:esc a=if 32<=a.toNat/\a.toNat<=126 then [a] else [92,117,48,48,hx (a.toNat / 16),hx (a.toNat % 16)]:=by
   unfold esc; rw [if_neg c1,if_neg c2,if_neg c3,if_neg c4,if_neg c5]
  by_cases c6:32<=a.toNat/\a.toNat<=126
  ·rw [show ((decide ((32:Int)<=((a.toNat:Nat):Int)))&&(decide (((a.toNat:Nat):Int)<=(126:Int))))=true by simp; omega,cond_true,wb_eq _ _ (by omega),Option.bind_some,Option.bind_some];exact fin _ (by rw [he,if_pos c6])
  ·rw [show ((decide ((32:Int)<=((a.toNat:Nat):Int)))&&(decide (((a.toNat:Nat):Int)<=(126:Int))))=false by simp; omega,cond_false];obtain⟨k,e⟩:=ws_eq o [92,117,48,48] (by simp; omega);rw [e,Option.bind_some,hexHi,Option.bind_some,wb_eq _ _ (by simp; omega),Option.bind_some,hexLo,Option.bind_some,wb_eq _ _ (by simp; omega),Option.bind_some,Option.bind_some];simp only [List.append_assoc];exact fin _ (by rw [he,if_neg c6]; rfl)
theorem tquote_eq (s:Bs) (h:s.length<=1048576):Z134_q s=some (qt s):=by
 have hf:=flat_len s;unfold Z134_q;have h0:Z128_q Strings_Builder.zero (34:Int)=some ((),bb [34]):=by rfl
 rw [h0,Option.bind_some,tquote_loop _ _ (by simp; omega),Option.bind_some];simp only [Ab.on];rw [show (34:Int)=(((34:UInt8).toNat:Nat):Int) from rfl,wb_eq _ _ (by simp only [List.length_append,List.length_cons,List.length_nil]; omega),Option.bind_some,str_eq _ (by simp)];simp [qt]
def sepB:Bs:=[44,32]
def pairB (a b:Bs):Bs:=a++[58,32]++b
mutual
def wv:Z12->Bs
 | .mk k i t _ items keys=>if k=1 then(if i=0 then [102,97,108,115,101] else [116,114,117,101]) else if k=2 then Lib.itoa i else if k=3 then qt t else if k=4 then t else if k=7 then 36::t else
  if k=5 then 91::(Lib.join (wvL items) sepB++[93]) else if k=6 then 123::(Lib.join (List.zipWith pairB keys.l (wvL items)) sepB++[125]) else [110,117,108,108]
def wvL:List Z12->List Bs
 | []=>[]
 | v::r=>wv v::wvL r
end
theorem wvL_eq (l:List Z12):wvL l=l.map wv:=by
 induction l with
 | nil=>rw [wvL]; rfl
 | cons a r ih=>rw [wvL,ih]; rfl
theorem wv_eq (v:Z12):wv v=if v.FKind=1 then(if v.FInt=0 then [102,97,108,115,101] else [116,114,117,101]) else if v.FKind=2 then Lib.itoa v.FInt else if v.FKind=3 then qt v.FText else if v.FKind=4 then v.FText else if v.FKind=7 then 36::v.FText else
  if v.FKind=5 then 91::(Lib.join (v.FItems.l.map wv) sepB++[93]) else if v.FKind=6 then 123::(Lib.join (List.zipWith pairB v.FKeys.l (v.FItems.l.map wv)) sepB++[125]) else [110,117,108,108]:=by
 cases v with
 | mk k i t nl items keys =>
  rw [wv];simp only [Z12.FKind,Z12.FInt,Z12.FText,Z12.FItems,Z12.FKeys,wvL_eq];rfl
theorem tail_len (r:List Bs):(Lib.joinTail sepB r).length=(r.map fun x=>x.length+2).sum:=by
 induction r with
 | nil=>rfl
 | cons a r ih =>
  have:Lib.joinTail sepB (a::r)=sepB++a++Lib.joinTail sepB r:=by simp [Lib.joinTail]
  have h2:sepB.length=2:=rfl;rw [this,List.length_append,List.length_append,ih,List.map_cons,List.sum_cons]; omega
theorem join_len (l:List Bs):(Lib.join l sepB).length<=(l.map fun x=>x.length+2).sum:=by
 cases l with
 | nil=>rw [Lib.join_nil]; simp
 | cons a r=>rw [Lib.join_cons]; simp only [List.length_append,tail_len,List.map_cons,List.sum_cons]; omega
theorem sum_le {α:Type}(f g:α->Nat):∀(l:List α),(∀x∈l,f x<=g x)->(l.map f).sum<=(l.map g).sum
 | [],_=>by simp
 | a::r,h=>by have:=h a (by simp); have:=sum_le f g r fun x hx=>h x (by simp [hx]); simp only [List.map_cons,List.sum_cons]; omega
theorem zip_sum:∀(ks:List Bs) (ws:List Bs),((List.zipWith pairB ks ws).map fun x=>x.length+2).sum<=(ks.map Bs.sz).sum+(ws.map fun x=>x.length+4).sum
 | [],_=>by simp
 | _::_,[]=>by simp
 | a::r,b::t=>by
  have:=zip_sum r t;have h2:(pairB a b).length=a.length+2+b.length:=by simp [pairB]; omega
  have h3:Bs.sz a=a.length+1:=rfl;simp only [List.zipWith_cons_cons,List.map_cons,List.sum_cons,h2,h3]; omega
theorem mul_sum {α:Type}(f:α->Nat) (k:Nat) (l:List α):(l.map fun x=>k*f x).sum=k*(l.map f).sum:=by
 induction l with
 | nil=>simp
 | cons a r ih=>simp only [List.map_cons,List.sum_cons,ih,Nat.mul_add]
theorem count_le (l:List Z12):l.length<=(l.map Z12.sz).sum:=by
 induction l with
 | nil=>simp
 | cons a r ih=>have:=a.pos; simp only [List.length_cons,List.map_cons,List.sum_cons]; omega
theorem wv_len (n:Nat):∀v:Z12,v.sz<n->v.wf->(wv v).length+4<=32*v.sz:=by
 induction n with
 | zero=>intro v h; omega
 | succ n ih =>
  intro v hn hw;have hd:=v.sz_def;have ht:Bs.sz v.FText=v.FText.length+1:=rfl;have hk:Sl.sz Bs.sz v.FKeys=1+(v.FKeys.l.map Bs.sz).sum:=rfl;have hi:Sl.sz Z12.sz v.FItems=1+(v.FItems.l.map Z12.sz).sum:=rfl;have hwf:=(Z12.wf_iff v).1 hw;have hit:((v.FItems.l.map wv).map fun x=>x.length+4).sum<=32*(v.FItems.l.map Z12.sz).sum:=by
   rw [List.map_map,<- mul_sum];exact sum_le _ _ _ fun x hx=>ih x (by have:=Z12.item_lt hx; omega) (hwf.2.2.2.1.2.2 x hx)
  have hi2:((v.FItems.l.map wv).map fun x=>x.length+2).sum<=((v.FItems.l.map wv).map fun x=>x.length+4).sum:=sum_le _ _ _ fun _ _=>by omega
  have hin:(Lib.itoa v.FInt).length<=22:=itoaLen hwf.2.1.1 hwf.2.1.2;have hj:=join_len (v.FItems.l.map wv);have hz:=join_len (List.zipWith pairB v.FKeys.l (v.FItems.l.map wv));have hz2:=zip_sum v.FKeys.l (v.FItems.l.map wv);have hq:=qt_len v.FText;rw [wv_eq]
  (repeat' split)
  all_goals (try simp only [List.length_cons,List.length_append,List.length_nil])<;>omega
theorem join_eq (nl:Bool) (l:List Bs) (h:l.length<=1099511627776/\(Lib.join l sepB).length<=1099511627776):Z132 ⟨nl,l⟩ ([44,32]:Bs)=some (Lib.join l sepB):=by
 unfold Z132 joinA;have h1:l.length<=maxN:=by unfold maxN; omega
 have h2:(Lib.join l [44,32]).length<=maxN:=by have:=h.2; unfold sepB at this; unfold maxN; omega
 rw [if_pos ⟨h1,h2⟩]; rfl
theorem vj29 {nl:Bool}{l:List Bs}(h:l.length<=1099511627776/\(Lib.join l sepB).length<=1099511627776):Z120_j29 ⟨nl,l⟩=some (91::(Lib.join l sepB++[93])):=by
 unfold Z120_j29;rw [join_eq nl l h,Option.bind_some,catC_ok (by simp only [List.length_cons,List.length_nil]; omega),Option.bind_some,catC_ok (by simp only [List.length_append,List.length_cons,List.length_nil]; omega),Option.bind_some];simp
theorem vj50 {nl:Bool}{l:List Bs}(h:l.length<=1099511627776/\(Lib.join l sepB).length<=1099511627776):Z120_j50 ⟨nl,l⟩=some (123::(Lib.join l sepB++[125])):=by
 unfold Z120_j50;rw [join_eq nl l h,Option.bind_some,catC_ok (by simp only [List.length_cons,List.length_nil]; omega),Option.bind_some,catC_ok (by simp only [List.length_append,List.length_cons,List.length_nil]; omega),Option.bind_some];simp
theorem vlist {v:Z12}{rec:Z12->Option Bs}(hr:∀x∈v.FItems.l,rec x=some (wv x)) (hl:v.FItems.l.length<=1048576):∀(n i:Nat) (nl:Bool),i<=v.FItems.l.length->v.FItems.l.length-i<n ->
  ∃nl',Z120_l37 v rec n ⟨nl,(v.FItems.l.take i).map wv⟩ i=Z120_j29 ⟨nl',v.FItems.l.map wv⟩
 | 0,_,_,_,h=>by omega
 | n+1,i,nl,h1,h2=>by
  rw [Z120_l37];by_cases hi:i<v.FItems.l.length
  ·rw [decide_eq_true (by omega:((i:Nat):Int)<((v.FItems.l.length:Nat):Int)),cond_true,List.getElem?_eq_getElem hi,Option.bind_some,hr _ (List.getElem_mem hi),Option.bind_some,
    appC_ok (by decide) (by simp only [List.length_map,List.length_take,List.length_cons,List.length_nil]; omega),Option.bind_some]
   have e:(v.FItems.l.take i).map wv++[wv v.FItems.l[i]]=(v.FItems.l.take (i+1)).map wv:=by
    rw [List.take_add_one,List.getElem?_eq_getElem hi,List.map_append]; rfl
   simp only [e];exact vlist hr hl n (i+1) _ (by omega) (by omega)
  ·rw [decide_eq_false (by omega:¬((i:Nat):Int)<((v.FItems.l.length:Nat):Int)),cond_false,List.take_of_length_le (by omega)];exact⟨nl,rfl⟩
theorem vobj {v:Z12}{rec:Z12->Option Bs}(hr:∀x∈v.FItems.l,rec x=some (wv x)) (hb:∀x∈v.FItems.l,(wv x).length<=1099511627) (hkb:∀x∈v.FKeys.l,x.length<=1048576) (hl:v.FItems.l.length<=1048576) (hk:v.FKeys.l.length<=1048576):∀(n i:Nat) (nl:Bool),i<=(List.zipWith pairB v.FKeys.l (v.FItems.l.map wv)).length->(List.zipWith pairB v.FKeys.l (v.FItems.l.map wv)).length-i<n ->
  ∃nl',Z120_l59 v rec n ⟨nl,(List.zipWith pairB v.FKeys.l (v.FItems.l.map wv)).take i⟩ (i:Int)=Z120_j50 ⟨nl',List.zipWith pairB v.FKeys.l (v.FItems.l.map wv)⟩
 | 0,_,_,_,h=>by omega
 | n+1,i,nl,h1,h2=>by
  have hz:(List.zipWith pairB v.FKeys.l (v.FItems.l.map wv)).length=min v.FKeys.l.length v.FItems.l.length:=by rw [List.length_zipWith,List.length_map]
  have hm:(if ((v.FItems.l.length:Nat):Int)<((v.FKeys.l.length:Nat):Int) then((v.FItems.l.length:Nat):Int) else((v.FKeys.l.length:Nat):Int))=((min v.FKeys.l.length v.FItems.l.length:Nat):Int):=by split<;>omega
  rw [Z120_l59,hm];by_cases hi:i<min v.FKeys.l.length v.FItems.l.length
  ·have k1:i<v.FKeys.l.length:=by omega
   have k2:i<v.FItems.l.length:=by omega
   have x1:idxC v.FKeys.l (i:Int)=some v.FKeys.l[i]:=by unfold idxC; rw [if_pos (by omega),Int.toNat_natCast,List.getElem?_eq_getElem k1]
   have x2:idxC v.FItems.l (i:Int)=some v.FItems.l[i]:=by unfold idxC; rw [if_pos (by omega),Int.toNat_natCast,List.getElem?_eq_getElem k2]
   have b1:=hkb _ (List.getElem_mem k1);have b2:=hb _ (List.getElem_mem k2);have ha:addC (i:Int) 1=some ((i+1:Nat):Int):=by rw [addC_ok (by omega)]; rfl
   rw [decide_eq_true (by omega:((i:Nat):Int)<((min v.FKeys.l.length v.FItems.l.length:Nat):Int)),cond_true,x1,Option.bind_some,catC_ok (by simp only [List.length_cons,List.length_nil]; omega),Option.bind_some,x2,Option.bind_some,hr _ (List.getElem_mem k2),Option.bind_some,
    catC_ok (by simp only [List.length_append,List.length_cons,List.length_nil]; omega),Option.bind_some,appC_ok (by decide) (by simp only [List.length_take,List.length_cons,List.length_nil]; omega),Option.bind_some,ha,Option.bind_some]
   have e:(List.zipWith pairB v.FKeys.l (v.FItems.l.map wv)).take i++[v.FKeys.l[i]++[58,32]++wv v.FItems.l[i]]=(List.zipWith pairB v.FKeys.l (v.FItems.l.map wv)).take (i+1):=by
    rw [List.take_add_one,List.getElem?_eq_getElem (by omega),List.getElem_zipWith,List.getElem_map]; rfl
   simp only [e];exact vobj hr hb hkb hl hk n (i+1) _ (by omega) (by omega)
  ·rw [decide_eq_false (by omega:¬((i:Nat):Int)<((min v.FKeys.l.length v.FItems.l.length:Nat):Int)),cond_false,List.take_of_length_le (by omega)];exact⟨nl,rfl⟩
theorem sval_n (n:Nat):∀v:Z12,v.sz<n->v.sz<=1048576->v.wf->Z120_n n v=some (wv v):=by
 induction n with
 | zero=>intro v h; omega
 | succ n ih =>
  intro v hn hs hw;have hd:=v.sz_def;have ht:Bs.sz v.FText=v.FText.length+1:=rfl;have hk:Sl.sz Bs.sz v.FKeys=1+(v.FKeys.l.map Bs.sz).sum:=rfl;have hi:Sl.sz Z12.sz v.FItems=1+(v.FItems.l.map Z12.sz).sum:=rfl;have hwf:=(Z12.wf_iff v).1 hw;have hrec:∀x∈v.FItems.l,Z120_n n x=some (wv x):=fun x hx=>ih x (by have:=Z12.item_lt hx; omega) (by have:=Z12.item_lt hx; omega) (hwf.2.2.2.1.2.2 x hx);have hbl:∀x∈v.FItems.l,(wv x).length+4<=32*x.sz:=fun x hx=>wv_len (x.sz+1) x (by omega) (hwf.2.2.2.1.2.2 x hx)
  have hit:((v.FItems.l.map wv).map fun x=>x.length+4).sum<=32*(v.FItems.l.map Z12.sz).sum:=by
   rw [List.map_map,<- mul_sum];exact sum_le _ _ _ fun x hx=>hbl x hx
  have hi2:((v.FItems.l.map wv).map fun x=>x.length+2).sum<=((v.FItems.l.map wv).map fun x=>x.length+4).sum:=sum_le _ _ _ fun _ _=>by omega
  have hz2:=zip_sum v.FKeys.l (v.FItems.l.map wv);have hj:=join_len (v.FItems.l.map wv);have hz:=join_len (List.zipWith pairB v.FKeys.l (v.FItems.l.map wv));have hc:=count_le v.FItems.l;have hkl:=Sl.len_le (f:=Bs.sz) v.FKeys (fun x=>Bs.sz_pos x);rw [Z120_n,wv_eq];by_cases c1:v.FKind=1
  ·rw [if_pos c1,decide_eq_true c1,cond_true];by_cases c:v.FInt=0
   ·rw [if_pos c,decide_eq_true c,cond_true]
   ·rw [if_neg c,decide_eq_false c,cond_false]
  rw [if_neg c1,decide_eq_false c1,cond_false];by_cases c2:v.FKind=2
  ·rw [if_pos c2,decide_eq_true c2,cond_true,Z133_eq,textDecimal_eq hwf.2.1.1 hwf.2.1.2,Option.bind_some]
  rw [if_neg c2,decide_eq_false c2,cond_false];by_cases c3:v.FKind=3
  ·rw [if_pos c3,decide_eq_true c3,cond_true,Z134_eq,tquote_eq _ (by omega),Option.bind_some]
  rw [if_neg c3,decide_eq_false c3,cond_false];by_cases c4:v.FKind=4
  ·rw [if_pos c4,decide_eq_true c4,cond_true]
  rw [if_neg c4,decide_eq_false c4,cond_false];by_cases c7:v.FKind=7
  ·rw [if_pos c7,decide_eq_true c7,cond_true,catC_ok (by simp only [List.length_cons,List.length_nil]; omega),Option.bind_some]; rfl
  rw [if_neg c7,decide_eq_false c7,cond_false];by_cases c5:v.FKind=5
  ·obtain⟨nl,e⟩:=vlist hrec (by omega) (v.FItems.l.length+1) 0 true (Nat.zero_le _) (by omega);rw [if_pos c5,decide_eq_true c5,cond_true];refine e.trans (vj29 ⟨by rw [List.length_map]; omega,by omega⟩)
  rw [if_neg c5,decide_eq_false c5,cond_false];by_cases c6:v.FKind=6
  ·have hzl:(List.zipWith pairB v.FKeys.l (v.FItems.l.map wv)).length<=v.FItems.l.length:=by rw [List.length_zipWith,List.length_map]; omega
   obtain⟨nl,e⟩:=vobj hrec (fun x hx=>by have:=hbl x hx; have:=Z12.item_lt hx; omega) (fun x hx=>by have:=Sl.mem_le (f:=Bs.sz) hx; have:Bs.sz x=x.length+1:=rfl; omega) (by omega) (by omega) F0 0 true (Nat.zero_le _) (by rw [F0_eq]; omega);rw [if_pos c6,decide_eq_true c6,cond_true];refine e.trans (vj50 ⟨by omega,by omega⟩)
  rw [if_neg c6,decide_eq_false c6,cond_false]
theorem sval_eq {v:Z12}(hs:v.sz<=1048576) (hw:v.wf):Z120 v=some (wv v):=sval_n F0 v (by rw [F0_eq]; omega) hs hw
theorem wv_le {v:Z12}(hs:v.sz<=1048576) (hw:v.wf):(wv v).length<=33554432:=by have:=wv_len (v.sz+1) v (by omega) hw; omega
def cls:List Int->Bs
 | []=>[]
 | w::r=>cls r++[if w=1 then 33 else 93]
def cnt:List Int->Nat
 | []=>0
 | w::r=>(if w=1 then 0 else 1)+cnt r
theorem cnt_le:∀l,cnt l<=l.length
 | []=>Nat.le_refl _
 | w::r=>by have:=cnt_le r; rw [cnt,List.length_cons]; split<;>omega
theorem cls_len:∀l,(cls l).length=l.length
 | []=>rfl
 | w::r=>by rw [cls,List.length_append,cls_len r]; rfl
def prt (N:Bs) (W:List Int):Bs:=List.replicate (cnt W) 91++(N++cls W)
def Rp (B:Strings_Builder) (l:Bs):Prop:=(l=[]/\B.Fbuf=⟨true,[]⟩)\/(l≠[]/\B.Fbuf=⟨false,l.map fun b=>(b.toNat:Int)⟩)
theorem Rp.buf {B:Strings_Builder}{l:Bs}(h:Rp B l):B.Fbuf.l=l.map fun b=>(b.toNat:Int):=by
 rcases h with ⟨rfl,h⟩|⟨_,h⟩<;>rw [h]; rfl
theorem byte_cast {n:Int}(h0:0<=n) (h1:n<256):((UInt8.ofNat n.toNat).toNat:Int)=n:=by
 rw [UInt8.toNat_ofNat',Nat.mod_eq_of_lt (by omega)]; omega
theorem Rp.wb {B:Strings_Builder}{l:Bs}(h:Rp B l){n:Int}(h0:0<=n) (h1:n<256) (hl:l.length<=1048576):∃B',Z128 B n=some ((),B')/\Rp B' (l++[UInt8.ofNat n.toNat]):=by
 refine⟨⟨true,⟨false,(l++[UInt8.ofNat n.toNat]).map fun b=>(b.toNat:Int)⟩⟩, ?_,.inr ⟨by simp,rfl⟩⟩;have hb:=h.buf;have hlen:B.Fbuf.l.length=l.length:=by rw [hb,List.length_map]
 unfold Z128 Z130 appC;simp only [Option.bind_some];rw [if_pos (by rw [hlen]; simp only [List.length_cons,List.length_nil]; unfold maxN; omega)];simp only [Option.bind_some,hb,List.map_append,List.map_cons,List.map_nil,byte_cast h0 h1,List.isEmpty_cons,Bool.and_false]
theorem Rp.str {B:Strings_Builder}{l:Bs}(h:Rp B l):Z127 B=some l:=by
 unfold Z127 bldStr;rw [if_pos]
 ·refine congrArg some ?_;unfold bytesC;rw [h.buf,List.map_map];conv=>rhs; rw [<- List.map_id l]
  refine List.map_congr_left fun b _=>?_;simp
 ·refine⟨?_, ?_⟩
  ·rw [h.buf,List.all_map,List.all_eq_true];intro b _;have:=b.toNat_lt;simp; omega
  ·rcases h with ⟨_,h⟩|⟨h2,h⟩
   ·rw [h]; exact .inl ⟨rfl,rfl⟩
   ·rw [h]; exact .inr ⟨rfl,by simpa using h2⟩
theorem idxP (l:List Int) (i:Nat):idxC l (i:Int)=l[i]?:=by unfold idxC; rw [if_pos (by omega)]; simp
theorem tprint4 (a:TRef) (hN:a.FName.length<=1048576) (hW:a.FWraps.l.length<=1048576):∀(n k:Nat) (B C:Strings_Builder),k<n->k<=a.FWraps.l.length->Rp B (List.replicate (cnt (a.FWraps.l.drop k)) 91)->Rp C (cls (a.FWraps.l.drop k))->Z135_l18 a n ((k:Int)-1) B C=some (prt a.FName a.FWraps.l)
 | 0,_,_,_,h,_,_,_=>by omega
 | n+1,0,B,C,_,_,hB,hC=>by
  have c1:=cnt_le a.FWraps.l;have c2:=cls_len a.FWraps.l;rw [Z135_l18,show decide ((0:Int)<=((0:Nat):Int)-1)=false from rfl,cond_false];unfold Z135_j7;rw [List.drop_zero] at hB hC;rw [hB.str,Option.bind_some,catC_ok (by simp; omega),Option.bind_some,hC.str,Option.bind_some,catC_ok (by simp; omega)];simp [prt]
 | n+1,k+1,B,C,h,hk,hB,hC=>by
  have c1:=cnt_le (a.FWraps.l.drop (k+1));have c2:=cls_len (a.FWraps.l.drop (k+1));simp only [List.length_drop] at c1 c2;obtain⟨w,hw⟩:∃w,a.FWraps.l[k]?=some w:=⟨_,List.getElem?_eq_getElem (show k<a.FWraps.l.length by omega)⟩;have hd:a.FWraps.l.drop k=w::a.FWraps.l.drop (k+1):=by
   obtain⟨hi,rfl⟩:=List.getElem?_eq_some_iff.1 hw;exact List.drop_eq_getElem_cons hi
  have hj:∀B C,Z135_j25 (k:Int) (Z135_l18 a n) B C=Z135_l18 a n ((k:Int)-1) B C:=by
   intro B C;unfold Z135_j25;rw [subC_ok (by omega),Option.bind_some]
  rw [Z135_l18,show ((k+1:Nat):Int)-1=(k:Int) by omega,show decide ((0:Int)<=(k:Int))=true from decide_eq_true (by omega),cond_true,idxP,hw,Option.bind_some];obtain⟨C1,u1,u2⟩:=hC.wb (n:=33) (by omega) (by omega) (by omega);obtain⟨C2,v1,v2⟩:=hC.wb (n:=93) (by omega) (by omega) (by omega);obtain⟨B1,x1,x2⟩:=hB.wb (n:=91) (by omega) (by omega) (by simp; omega);by_cases h1:w=1
  ·rw [decide_eq_true h1,cond_true,u1,Option.bind_some,hj];refine tprint4 a hN hW n k B C1 (by omega) (by omega) ?_ ?_
   ·rw [hd,cnt,if_pos h1,Nat.zero_add]; exact hB
   ·rw [hd,cls,if_pos h1]; exact u2
  ·rw [decide_eq_false h1,cond_false,x1,Option.bind_some,v1,Option.bind_some,hj];refine tprint4 a hN hW n k B1 C2 (by omega) (by omega) ?_ ?_
   ·rw [hd,cnt,if_neg h1,Nat.add_comm,List.replicate_succ']; exact x2
   ·rw [hd,cls,if_neg h1]; exact v2
theorem tprint4_eq {a:TRef}(hN:a.FName.length<=1048576) (hW:a.FWraps.l.length<=1048576):Z135 a=some (prt a.FName a.FWraps.l):=by
 unfold Z135;rw [subC_ok (by omega),Option.bind_some];refine tprint4 a hN hW F0 a.FWraps.l.length _ _ (by rw [F0_eq]; omega) (by omega) ?_ ?_
 ·rw [List.drop_of_length_le (by omega)]; exact .inl ⟨rfl,rfl⟩
 ·rw [List.drop_of_length_le (by omega)]; exact .inl ⟨rfl,rfl⟩
theorem prt_len {N:Bs}{W:List Int}:(prt N W).length<=N.length+2*W.length:=by
 have:=cnt_le W;unfold prt; simp only [List.length_append,List.length_replicate,cls_len]; omega
end Go.Proofs

namespace Go.Proofs
open Go Go.Ab
theorem cmpB_zero:∀s t:Bs,Lib.compareBytes s t=0↔s=t
 | [],[]=>by simp [Lib.compareBytes]
 | [],_::_=>by simp [Lib.compareBytes]
 | _::_,[]=>by simp [Lib.compareBytes]
 | a::r,b::q=>by
  rw [Lib.compareBytes];by_cases h1:a<b
  ·rw [if_pos h1];exact⟨fun h=>(by cases h),fun h=>by cases h; exact absurd h1 (UInt8.lt_irrefl _)⟩
  ·rw [if_neg h1];by_cases h2:b<a
   ·rw [if_pos h2];exact⟨fun h=>(by cases h),fun h=>by cases h; exact absurd h2 (UInt8.lt_irrefl _)⟩
   ·rw [if_neg h2,cmpB_zero r q];have:a=b:=UInt8.le_antisymm (UInt8.not_lt.1 h2) (UInt8.not_lt.1 h1);rw [this]; simp
theorem cmpI (a b:Int):∃c,Z27 a b=some c/\(c=0↔a=b):=by
 unfold Z27 Z28;simp only [decide_true,Bool.not_true,Option.bind_some,cond_false];by_cases h1:a<b
 ·rw [decide_eq_true h1]; exact⟨-1,rfl,⟨fun h=>(by cases h),fun h=>by omega⟩⟩
 ·rw [decide_eq_false h1];by_cases h2:b<a
  ·rw [decide_eq_true h2]; exact⟨1,rfl,⟨fun h=>(by cases h),fun h=>by omega⟩⟩
  ·rw [decide_eq_false h2]; exact⟨0,rfl,⟨fun _=>by omega,fun _=>rfl⟩⟩
theorem key_eq (v:Z12) (i:Nat):Z139 v (i:Int)=some (v.FKeys.l.getD i []):=by
 unfold Z139;by_cases h:i<v.FKeys.l.length
 ·have x1:idxC v.FKeys.l (i:Int)=some v.FKeys.l[i]:=by unfold idxC; rw [if_pos (by omega),Int.toNat_natCast,List.getElem?_eq_getElem h]
  rw [decide_eq_true (by omega:((i:Nat):Int)<((v.FKeys.l.length:Nat):Int)),cond_true,x1,Option.bind_some,List.getD_eq_getElem?_getD,List.getElem?_eq_getElem h]; rfl
 ·rw [decide_eq_false (by omega:¬((i:Nat):Int)<((v.FKeys.l.length:Nat):Int)),cond_false,List.getD_eq_getElem?_getD,List.getElem?_eq_none (by omega)]; rfl
def AtR (R:Z12->Z12->Prop) (v w:Z12) (j:Nat):Prop:=v.FKeys.l.getD j []=w.FKeys.l.getD j []/\∃x y,v.FItems.l[j]?=some x/\w.FItems.l[j]?=some y/\R x y
def EqV:Nat->Z12->Z12->Prop
 | 0,_,_=>False
 | n+1,v,w=>v.FKind=w.FKind/\v.FInt=w.FInt/\v.FText=w.FText/\v.FItems.l.length=w.FItems.l.length/\∀j,0<=j->j<v.FItems.l.length->AtR (EqV n) v w j
theorem EqV.refl:∀{n:Nat}{v:Z12},v.sz<n->EqV n v v
 | 0,_,h=>by omega
 | n+1,v,h=>⟨rfl,rfl,rfl,rfl,fun j _ hj=>⟨rfl,_,_,List.getElem?_eq_getElem hj,List.getElem?_eq_getElem hj,EqV.refl (by have:=Z12.item_lt (List.getElem_mem hj); omega)⟩⟩
theorem l37_spec {v w:Z12}{rec:Z12->Z12->Option Int}{k:Int->Int->Option Int}{n:Nat}(hk:∀z,k z 1=some z) (hrec:∀x∈v.FItems.l,∀y∈w.FItems.l,∃c,rec x y=some c/\(c=0↔EqV n x y)) (hl:v.FItems.l.length<=1048576) :
  ∀(f i:Nat),i<=min v.FItems.l.length w.FItems.l.length->min v.FItems.l.length w.FItems.l.length-i<f ->
   ∃c,Z137_l37 v w 0 k rec f (i:Int)=some c/\(c=0↔(v.FItems.l.length=w.FItems.l.length/\∀j,i<=j->j<v.FItems.l.length->AtR (EqV n) v w j))
 | 0,_,_,h=>by omega
 | f+1,i,h1,h2=>by
  have hm:(if ((w.FItems.l.length:Nat):Int)<((v.FItems.l.length:Nat):Int) then((w.FItems.l.length:Nat):Int) else((v.FItems.l.length:Nat):Int))=((min v.FItems.l.length w.FItems.l.length:Nat):Int):=by split<;>omega
  rw [Z137_l37,hm];by_cases hi:i<min v.FItems.l.length w.FItems.l.length
  ·have k1:i<v.FItems.l.length:=by omega
   have k2:i<w.FItems.l.length:=by omega
   have x1:idxC v.FItems.l (i:Int)=some v.FItems.l[i]:=by unfold idxC; rw [if_pos (by omega),Int.toNat_natCast,List.getElem?_eq_getElem k1]
   have x2:idxC w.FItems.l (i:Int)=some w.FItems.l[i]:=by unfold idxC; rw [if_pos (by omega),Int.toNat_natCast,List.getElem?_eq_getElem k2]
   have ha:addC (i:Int) 1=some ((i+1:Nat):Int):=by rw [addC_ok (by omega)]; rfl
   rw [decide_eq_true (by omega:((i:Nat):Int)<((min v.FItems.l.length w.FItems.l.length:Nat):Int)),cond_true,key_eq,Option.bind_some,key_eq,Option.bind_some,show Z131 (v.FKeys.l.getD i []) (w.FKeys.l.getD i [])=some (Lib.compareBytes (v.FKeys.l.getD i []) (w.FKeys.l.getD i [])) from rfl,Option.bind_some];have hc:=cmpB_zero (v.FKeys.l.getD i []) (w.FKeys.l.getD i []);by_cases c0:Lib.compareBytes (v.FKeys.l.getD i []) (w.FKeys.l.getD i [])=0
   ·rw [decide_eq_true c0,Bool.not_true,cond_false,x1,Option.bind_some,x2,Option.bind_some];obtain⟨c,e1,e2⟩:=hrec _ (List.getElem_mem k1) _ (List.getElem_mem k2);rw [e1,Option.bind_some];by_cases c1:c=0
    ·rw [decide_eq_true c1,Bool.not_true,cond_false,ha,Option.bind_some];obtain⟨z,z1,z2⟩:=l37_spec hk hrec hl f (i+1) (by omega) (by omega);refine⟨z,z1,z2.trans ⟨fun⟨u1,u2⟩=>⟨u1,fun j j1 j2=>?_⟩,fun⟨u1,u2⟩=>⟨u1,fun j j1 j2=>u2 j (by omega) j2⟩⟩⟩;rcases Nat.lt_or_ge i j with j3|j3
     ·exact u2 j j3 j2
     ·obtain rfl:j=i:=by omega
      exact⟨hc.1 c0,_,_,List.getElem?_eq_getElem k1,List.getElem?_eq_getElem k2,e2.1 c1⟩
    ·rw [decide_eq_false c1,Bool.not_false,cond_true];refine⟨c,rfl,⟨fun h=>absurd h c1,fun⟨u1,u2⟩=>?_⟩⟩;obtain⟨_,x,y,g1,g2,g3⟩:=u2 i (Nat.le_refl _) k1;rw [List.getElem?_eq_getElem k1] at g1; rw [List.getElem?_eq_getElem k2] at g2;cases g1; cases g2;exact e2.2 g3
   ·rw [decide_eq_false c0,Bool.not_false,cond_true];refine⟨_,rfl,⟨fun h=>absurd h c0,fun⟨u1,u2⟩=>hc.2 (u2 i (Nat.le_refl _) k1).1⟩⟩
  ·rw [decide_eq_false (by omega:¬((i:Nat):Int)<((min v.FItems.l.length w.FItems.l.length:Nat):Int)),cond_false];obtain⟨c,e1,e2⟩:=cmpI ((v.FItems.l.length:Nat):Int) ((w.FItems.l.length:Nat):Int);unfold Z137_j30 Z137_j14;rw [e1,Option.bind_some,addC_ok (by omega),Option.bind_some];refine⟨c,hk c,e2.trans ⟨fun h=>⟨by omega,fun j j1 j2=>by omega⟩,fun⟨h,_⟩=>by rw [h]⟩⟩
theorem cmpV (n:Nat):∀v w:Z12,v.sz<n->v.sz<=1048576->∃c,Z137_n n v w=some c/\(c=0↔EqV n v w):=by
 induction n with
 | zero=>intro v w h; omega
 | succ n ih =>
  intro v w hn hs;have hd:=v.sz_def;have hi:Sl.sz Z12.sz v.FItems=1+(v.FItems.l.map Z12.sz).sum:=rfl;have hl:=Sl.len_le (f:=Z12.sz) v.FItems (fun x=>x.pos);obtain⟨m,hm⟩:∃m,F0=m+1+1:=⟨F0-2,by rw [F0_eq]⟩;rw [Z137_n,show Z137_l8 v w (Z137_n n) F0 0 0=Z137_l8 v w (Z137_n n) (m+1+1) 0 0 from by rw [<- hm],Z137_l8,show decide ((0:Int)<1)=true from rfl,cond_true];by_cases c1:v.FKind=w.FKind
  ·rw [decide_eq_true c1,Bool.not_true,cond_false];by_cases c2:v.FInt=w.FInt
   ·rw [decide_eq_true c2,Bool.not_true,cond_false];by_cases c3:v.FText=w.FText
    ·rw [beq_iff_eq.mpr c3,Bool.not_true,cond_false];obtain⟨c,e1,e2⟩:=l37_spec (v:=v) (w:=w) (rec:=Z137_n n) (k:=Z137_l8 v w (Z137_n n) (m+1)) (n:=n) (fun z=>by rw [Z137_l8,show decide ((1:Int)<1)=false from rfl,cond_false]; rfl)
      (fun x hx y _=>ih x y (by have:=Z12.item_lt hx; omega) (by have:=Z12.item_lt hx; omega)) (by omega) F0 0 (Nat.zero_le _) (by rw [F0_eq]; omega)
     exact⟨c,e1,e2.trans ⟨fun⟨u1,u2⟩=>⟨c1,c2,c3,u1,u2⟩,fun⟨_,_,_,u1,u2⟩=>⟨u1,u2⟩⟩⟩
    ·rw [show (v.FText==w.FText)=false from beq_eq_false_iff_ne.mpr c3,Bool.not_false,cond_true,show Z131 v.FText w.FText=some (Lib.compareBytes v.FText w.FText) from rfl,Option.bind_some];exact⟨_,rfl,⟨fun h=>absurd ((cmpB_zero _ _).1 h) c3,fun⟨_,_,h,_⟩=>absurd h c3⟩⟩
   ·obtain⟨c,e1,e2⟩:=cmpI v.FInt w.FInt;rw [decide_eq_false c2,Bool.not_false,cond_true,e1,Option.bind_some];exact⟨c,rfl,⟨fun h=>absurd (e2.1 h) c2,fun⟨_,h,_⟩=>absurd h c2⟩⟩
  ·obtain⟨c,e1,e2⟩:=cmpI v.FKind w.FKind;rw [decide_eq_false c1,Bool.not_false,cond_true,e1,Option.bind_some];exact⟨c,rfl,⟨fun h=>absurd (e2.1 h) c1,fun⟨h,_⟩=>absurd h c1⟩⟩
def vsX (v w:Z12):Bool:=(Z138_q v w).getD false
theorem vsame {v w:Z12}(hv:v.sz<=1048576):Z138_q v w=some (vsX v w)/\(vsX v w=true↔EqV F0 v w):=by
 obtain⟨c,e1,e2⟩:=cmpV F0 v w (by rw [F0_eq]; omega) hv;have e:Z138_q v w=some (decide (c=0)):=by unfold Z138_q Z137; rw [e1]; rfl
 have e':vsX v w=decide (c=0):=by unfold vsX; rw [e]; rfl
 rw [e'];exact⟨e,by rw [decide_eq_true_iff]; exact e2⟩
theorem vsX_refl {v:Z12}(hv:v.sz<=1048576):vsX v v=true:=(vsame hv).2.2 (EqV.refl (by rw [F0_eq]; omega))
end Go.Proofs

namespace Go.Proofs
open Go Go.Ab
def maxD:Nat:=1500000000000
theorem app88 {s r:Sl Z5}(h:s.l.length+r.l.length<=maxD):appC 88 s r=some ⟨s.nl&&r.l.isEmpty,s.l++r.l⟩:=by
 unfold appC; rw [if_pos];have:(s.l.length+r.l.length)*88<=1500000000000*88:=Nat.mul_le_mul_right _ h;unfold maxN; omega
def DF (o:Option Z0) (n:Bs) (s X:List Z5):Prop:=s.length+X.length<=maxD->∃nl,o=some (Z0.mk n ⟨nl,s++X⟩)
theorem DF.pure (n:Bs) (nl:Bool) (s:List Z5):DF (some (Z0.mk n ⟨nl,s⟩)) n s []:=fun _=>⟨nl,by simp⟩
theorem DF.bind {o:Option Z0}{f:Z0->Option Z0}{n m:Bs}{s X Y:List Z5}(h:DF o n s X) (hf:∀nl,DF (f (Z0.mk n ⟨nl,s++X⟩)) m (s++X) Y):DF (o.bind f) m s (X++Y):=fun hb=>by
 rw [List.length_append] at hb;obtain⟨nl,e⟩:=h (by omega);obtain⟨nl2,e2⟩:=hf nl (by rw [List.length_append]; omega);exact⟨nl2,by rw [e,Option.bind_some,e2,List.append_assoc]⟩
theorem DF.id {o:Option Z0}{n:Bs}{s X:List Z5}(h:DF o n s X):DF (o.bind fun x=>some x) n s X:=fun hb=>by
 obtain⟨nl,e⟩:=h hb;exact⟨nl,by rw [e]; rfl⟩
theorem DF.of {o:Option Z0}{n:Bs}{s X Y:List Z5}(h:DF o n s X) (e:X=Y):DF o n s Y:=e▸h
theorem add_df (n:Bs) (nl:Bool) (s:List Z5) (k:Int) (f a x y:Bs):DF (Z16_q (Z0.mk n ⟨nl,s⟩) k f a x y) n s [Z5.mk k n f a x y]:=fun hb=>by
 unfold Z16_q;rw [app88 (s:=⟨nl,s⟩) hb,Option.bind_some];exact⟨_,rfl⟩
def prX (t:TRef):Bs:=prt t.FName t.FWraps.l
def deX (x:Z9):Bs:=bif !x.FHas then [] else wv x.FDefault
def itX (x:Z9):Bs:=bif !x.FHas then prX x.FType else prX x.FType++[32,61,32]++deX x
def saV (a b:TRef):Bool:=a.FName==b.FName&&decide (a.FWraps.l=b.FWraps.l)
structure ROk (t:TRef):Prop where
 n:t.FName.length<=1048576
 w:t.FWraps.l.length<=1048576
structure IOk (x:Z9):Prop where
 r:ROk x.FType
 s:x.FDefault.sz<=1048576
 f:x.FDefault.wf
theorem print_is {t:TRef}(h:ROk t):Z135_q t=some (prX t):=tprint4_eq h.n h.w
theorem prX_len {t:TRef}(h:ROk t):(prX t).length<=3145728:=by
 have:=prt_len (N:=t.FName) (W:=t.FWraps.l); have:=h.n; have:=h.w; unfold prX; omega
theorem def_is {x:Z9}(h:IOk x):Z15_q x=some (deX x)/\(deX x).length<=33554432:=by
 unfold Z15_q deX;cases x.FHas
 ·exact⟨rfl,Nat.zero_le _⟩
 ·rw [Bool.not_true,cond_false,cond_false,sval_eq h.s h.f];exact⟨rfl,wv_le h.s h.f⟩
theorem inp_is {x:Z9}(h:IOk x):Z22_q x=some (itX x):=by
 have h1:=prX_len h.r;have h2:=(def_is h).2;unfold Z22_q itX;rw [print_is h.r,(def_is h).1];cases x.FHas
 ·rfl
 ·rw [Bool.not_true,cond_false,cond_false,Option.bind_some,catC_ok (by simp only [List.length_cons,List.length_nil]; omega),Option.bind_some,Option.bind_some,catC_ok (by simp only [List.length_append,List.length_cons,List.length_nil]; omega),Option.bind_some]
theorem eqAux (a1:Sl Int):∀(l:List Int) (s:Nat),l.length+s=a1.l.length->Z124_q12 a1 l s=some (if l=a1.l.drop s then Sum.inl () else Sum.inr false)
 | [],s,h=>by
  rw [Z124_q12,if_pos];rw [List.drop_eq_nil_of_le]; simp at h; omega
 | x::r,s,h=>by
  simp only [List.length_cons] at h;have hs:s<a1.l.length:=by omega
  have hg:=List.getElem?_eq_getElem hs;rw [Z124_q12];simp only [Ab.on];rw [hg,Option.bind_some,eqAux a1 r (s+1) (by omega),Q.drop_of hg];generalize a1.l[s]=y;generalize a1.l.drop (s+1)=t;by_cases e:x=y
  ·subst e; simp only [decide_true,Bool.not_true,cond_false,List.cons.injEq,true_and]
  ·simp [e]
theorem same_is (a b:TRef):Z136_q a b=some (saV a b):=by
 have e:Z124_q a.FWraps b.FWraps=some (decide (a.FWraps.l=b.FWraps.l)):=by
  unfold Z124_q;by_cases h:a.FWraps.l.length=b.FWraps.l.length
  ·rw [decide_eq_true (by omega:((a.FWraps.l.length:Nat):Int)=((b.FWraps.l.length:Nat):Int)),Bool.not_true,cond_false,eqAux b.FWraps a.FWraps.l 0 (by omega),Option.bind_some,List.drop_zero];by_cases h2:a.FWraps.l=b.FWraps.l
   ·rw [if_pos h2,decide_eq_true h2]; rfl
   ·rw [if_neg h2,decide_eq_false h2]
  ·rw [decide_eq_false (by omega:¬((a.FWraps.l.length:Nat):Int)=((b.FWraps.l.length:Nat):Int)),decide_eq_false (fun h2=>h (by rw [h2]))]; rfl
 unfold Z136_q saV;rw [e];cases a.FName==b.FName<;>rfl
def inW (n:Bs) (K:Z1) (p:Bs->Bs×Bs) (x y:Z9):List Z5 :=
 (bif !saV x.FType y.FType then [Z5.mk K.Ftyp n (p x.FName).1 (p x.FName).2 (prX x.FType) (prX y.FType)] else []) ++
 (bif (!(x.FHas==y.FHas))||(x.FHas&&!vsX x.FDefault y.FDefault) then [Z5.mk K.Fdef n (p x.FName).1 (p x.FName).2 (deX x) (deX y)] else [])
def inG (n:Bs) (K:Z1) (p:Bs->Bs×Bs) (x:Z9):List Z5:=[Z5.mk K.Fgone n (p x.FName).1 (p x.FName).2 (itX x) []]
def inN (n:Bs) (K:Z1) (p:Bs->Bs×Bs) (x:Z9):List Z5:=[Z5.mk K.Fadd n (p x.FName).1 (p x.FName).2 [] (itX x)]
def inX (n:Bs) (K:Z1) (p:Bs->Bs×Bs) (A B:List Z9):List Z5:=dif Z9.FName (inW n K p) (inG n K p) A B++lon Z9.FName (inN n K p) B A
theorem inputI (l:List Z9) (s:Bs):Z119_q7 s l=(match l.find? (fun t=>t.FName==s) with|some t=>Sum.inr (t,true)|none=>Sum.inl ()):=by
 induction l with
 | nil=>rfl
 | cons a r ih =>
  rw [Z119_q7,List.find?_cons];simp only [Ab.on];cases a.FName==s
  ·exact ih
  ·rfl
theorem inputOf_is (t:Sl Z9) (s:Bs):(∃y,t.l.find? (fun t=>t.FName==s)=some y/\Z119_q t s=(y,true))\/(t.l.find? (fun t=>t.FName==s)=none/\(Z119_q t s).2=false):=by
 unfold Z119_q;simp only [Ab.on,inputI];cases t.l.find? (fun t=>t.FName==s) with
 | none=>exact .inr ⟨rfl,rfl⟩
 | some y=>exact .inl ⟨y,rfl,rfl⟩
theorem inputs26_df {n:Bs}{K:Z1}{p:Bs->Bs×Bs}{a4:Bs->Option (Bs×Bs)}(ha:∀s,a4 s=some (p s)){B:Sl Z9}(hB:∀y∈B.l,IOk y):∀(A:List Z9) (nl:Bool) (s:List Z5),(∀x∈A,IOk x) ->
  DF (Z21_q26m B K a4 A (Z0.mk n ⟨nl,s⟩)) n s (dif Z9.FName (inW n K p) (inG n K p) A B.l)
 | [],nl,s,_=>by rw [Z21_q26m]; exact DF.pure n nl s
 | x::r,nl,s,hA=>by
  have hx:=hA x (.head _);have ih:=fun nl s=>inputs26_df (n:=n) (K:=K) (p:=p) ha hB r nl s fun y hy=>hA y (.tail _ hy);rw [Z21_q26m];simp only [Ab.on,ha,Option.bind_some];unfold dif at ih ⊢;rw [List.flatMap_cons];refine DF.bind (n:=n) ?_ fun nl=>ih nl _;rcases inputOf_is B x.FName with ⟨y,e1,e2⟩|⟨e1,e2⟩
  ·have hy:=hB y (List.mem_of_find?_eq_some e1);rw [e1,e2];simp only [Bool.not_true,cond_false];rw [same_is,Option.bind_some];unfold inW;refine DF.bind (n:=n) ?_ fun nl=>?_
   ·cases saV x.FType y.FType
    ·rw [Bool.not_false,cond_true,cond_true,print_is hx.r,Option.bind_some,print_is hy.r,Option.bind_some];exact(add_df _ _ _ _ _ _ _ _).id
    ·exact DF.pure _ _ _
   ·rw [(vsame hx.s).1];have fin:∀b:Bool,DF (bif b then((Z15_q x).bind fun x51=>(Z15_q y).bind fun x52=>(Z16_q (Z0.mk n ⟨nl,s++bif !saV x.FType y.FType then [Z5.mk K.Ftyp n (p x.FName).1 (p x.FName).2 (prX x.FType) (prX y.FType)] else []⟩) K.Fdef (p x.FName).1 (p x.FName).2 x51 x52).bind fun x53=>some x53) else(some (Z0.mk n ⟨nl,s++bif !saV x.FType y.FType then [Z5.mk K.Ftyp n (p x.FName).1 (p x.FName).2 (prX x.FType) (prX y.FType)] else []⟩))) n (s++bif !saV x.FType y.FType then [Z5.mk K.Ftyp n (p x.FName).1 (p x.FName).2 (prX x.FType) (prX y.FType)] else [])
      (bif b then [Z5.mk K.Fdef n (p x.FName).1 (p x.FName).2 (deX x) (deX y)] else []):=by
     intro b;cases b
     ·exact DF.pure _ _ _
     ·rw [cond_true,cond_true,(def_is hx).1,Option.bind_some,(def_is hy).1,Option.bind_some];exact(add_df _ _ _ _ _ _ _ _).id
    have e3:∀{k:Bool->Option Z0},guardO (!!(x.FHas==y.FHas)&&x.FHas) (some (vsX x.FDefault y.FDefault)) false k=k ((!!(x.FHas==y.FHas)&&x.FHas)&&vsX x.FDefault y.FDefault):=by
     intro k;cases (!!(x.FHas==y.FHas)&&x.FHas)<;>rfl
    rw [e3];refine(fin _).of ?_;cases x.FHas<;>cases y.FHas<;>cases vsX x.FDefault y.FDefault<;>rfl
  ·rw [e1,e2];simp only [Bool.not_false,cond_true];rw [inp_is hx,Option.bind_some];exact(add_df _ _ _ _ _ _ _ _).id
theorem inputs6_df {n:Bs}{K:Z1}{p:Bs->Bs×Bs}{a4:Bs->Option (Bs×Bs)}(ha:∀s,a4 s=some (p s)) (B:Sl Z9):∀(A:List Z9) (nl:Bool) (s:List Z5),(∀x∈A,IOk x) ->
  DF (Z21_q6m B K a4 A (Z0.mk n ⟨nl,s⟩)) n s (lon Z9.FName (inN n K p) A B.l)
 | [],nl,s,_=>by rw [Z21_q6m]; exact DF.pure n nl s
 | x::r,nl,s,hA=>by
  have hx:=hA x (.head _);have ih:=fun nl s=>inputs6_df (n:=n) (K:=K) (p:=p) ha B r nl s fun y hy=>hA y (.tail _ hy);rw [Z21_q6m];simp only [Ab.on,ha,Option.bind_some];unfold lon at ih ⊢;rw [List.flatMap_cons];refine DF.bind (n:=n) ?_ fun nl=>ih nl _;rcases inputOf_is B x.FName with ⟨y,e1,e2⟩|⟨e1,e2⟩
  ·rw [e1,e2]; exact DF.pure _ _ _
  ·rw [e1,e2];simp only [Bool.not_false,cond_true];rw [inp_is hx,Option.bind_some];exact(add_df _ _ _ _ _ _ _ _).id
theorem inputs_df {n:Bs}{K:Z1}{p:Bs->Bs×Bs}{a4:Bs->Option (Bs×Bs)}(ha:∀s,a4 s=some (p s)){A B:Sl Z9}(hA:∀y∈A.l,IOk y) (hB:∀y∈B.l,IOk y) (nl:Bool) (s:List Z5) :
  DF (Z21_qm (Z0.mk n ⟨nl,s⟩) A B K a4) n s (inX n K p A.l B.l):=by
 unfold Z21_qm inX;refine DF.bind (inputs26_df ha hB A.l nl s hA) fun nl=>?_;simp only [Ab.on];exact(inputs6_df ha A B.l nl _ hB).id
end Go.Proofs

namespace Go.Proofs
open Go Go.Ab
structure FOk (f:Z7):Prop where
 r:ROk f.FType
 a:∀x∈f.FArgs.l,IOk x
structure TOk (t:TDef):Prop where
 f:∀x∈t.FFields.l,FOk x
 i:∀x∈t.FInputs.l,IOk x
 m:t.FMembers.l.length<=1048576
 p:SOk t.FImplements
def K7:Z1:=Z1.mk (7:Int) (8:Int) (9:Int) (10:Int)
def K13:Z1:=Z1.mk (13:Int) (14:Int) (15:Int) (16:Int)
def fdW (n:Bs) (x y:Z7):List Z5:=(bif !saV x.FType y.FType then [Z5.mk 6 n x.FName [] (prX x.FType) (prX y.FType)] else [])++inX n K7 (fun s=>(x.FName,s)) x.FArgs.l y.FArgs.l
def fdG (n:Bs) (x:Z7):List Z5:=[Z5.mk 4 n x.FName [] (prX x.FType) []]
def fdN (n:Bs) (x:Z7):List Z5:=[Z5.mk 5 n x.FName [] [] (prX x.FType)]
def fdX (n:Bs) (A B:List Z7):List Z5:=dif Z7.FName (fdW n) (fdG n) A B++lon Z7.FName (fdN n) B A
theorem fieldI (l:List Z7) (s:Bs):Z117_q7 s l=(match l.find? (fun t=>t.FName==s) with|some t=>Sum.inr (t,true)|none=>Sum.inl ()):=by
 induction l with
 | nil=>rfl
 | cons a r ih =>
  rw [Z117_q7,List.find?_cons];simp only [Ab.on];cases a.FName==s
  ·exact ih
  ·rfl
theorem fieldOf_is (t:TDef) (s:Bs):(∃y,t.FFields.l.find? (fun t=>t.FName==s)=some y/\Z117_q t s=(y,true))\/(t.FFields.l.find? (fun t=>t.FName==s)=none/\(Z117_q t s).2=false):=by
 unfold Z117_q;simp only [Ab.on,fieldI];cases t.FFields.l.find? (fun t=>t.FName==s) with
 | none=>exact .inr ⟨rfl,rfl⟩
 | some y=>exact .inl ⟨y,rfl,rfl⟩
theorem fields24_df {n:Bs}{u:TDef}(hB:∀y∈u.FFields.l,FOk y):∀(A:List Z7) (nl:Bool) (s:List Z5),(∀x∈A,FOk x) ->
  DF (Z19_q24 u A (Z0.mk n ⟨nl,s⟩)) n s (dif Z7.FName (fdW n) (fdG n) A u.FFields.l)
 | [],nl,s,_=>by rw [Z19_q24]; exact DF.pure n nl s
 | x::r,nl,s,hA=>by
  have hx:=hA x (.head _);have ih:=fun nl s=>fields24_df (n:=n) hB r nl s fun y hy=>hA y (.tail _ hy);rw [Z19_q24];simp only [Ab.on];unfold dif at ih ⊢;rw [List.flatMap_cons];refine DF.bind (n:=n) ?_ fun nl=>ih nl _;rcases fieldOf_is u x.FName with ⟨y,e1,e2⟩|⟨e1,e2⟩
  ·have hy:=hB y (List.mem_of_find?_eq_some e1);rw [e1,e2];simp only [Bool.not_true,cond_false];rw [same_is,Option.bind_some];unfold fdW;refine DF.bind (n:=n) ?_ fun nl=>?_
   ·cases saV x.FType y.FType
    ·rw [Bool.not_false,cond_true,cond_true,print_is hx.r,Option.bind_some,print_is hy.r,Option.bind_some];exact(add_df _ _ _ _ _ _ _ _).id
    ·exact DF.pure _ _ _
   ·exact(inputs_df (p:=fun s=>(x.FName,s)) (fun _=>rfl) hx.a hy.a nl _).id
  ·rw [e1,e2];simp only [Bool.not_false,cond_true];rw [print_is hx.r,Option.bind_some];exact(add_df _ _ _ _ _ _ _ _).id
theorem fields6_df {n:Bs}(u:TDef):∀(A:List Z7) (nl:Bool) (s:List Z5),(∀x∈A,FOk x) ->
  DF (Z19_q6 u A (Z0.mk n ⟨nl,s⟩)) n s (lon Z7.FName (fdN n) A u.FFields.l)
 | [],nl,s,_=>by rw [Z19_q6]; exact DF.pure n nl s
 | x::r,nl,s,hA=>by
  have hx:=hA x (.head _);have ih:=fun nl s=>fields6_df (n:=n) u r nl s fun y hy=>hA y (.tail _ hy);rw [Z19_q6];simp only [Ab.on];unfold lon at ih ⊢;rw [List.flatMap_cons];refine DF.bind (n:=n) ?_ fun nl=>ih nl _;rcases fieldOf_is u x.FName with ⟨y,e1,e2⟩|⟨e1,e2⟩
  ·rw [e1,e2]; exact DF.pure _ _ _
  ·rw [e1,e2];simp only [Bool.not_false,cond_true];rw [print_is hx.r,Option.bind_some];exact(add_df _ _ _ _ _ _ _ _).id
theorem fields_df {n:Bs}{t u:TDef}(ht:TOk t) (hu:TOk u) (nl:Bool) (s:List Z5):DF (Z19_q (Z0.mk n ⟨nl,s⟩) t u) n s (fdX n t.FFields.l u.FFields.l):=by
 unfold Z19_q fdX;refine DF.bind (fields24_df hu.f t.FFields.l nl s ht.f) fun nl=>?_;simp only [Ab.on];exact(fields6_df t u.FFields.l nl _ hu.f).id
theorem names_loop:∀(l:List Z10) (nl:Bool) (s:List Bs),(nl=true->s=[])->s.length+l.length<=2097152->∃nl',Z26_q8 l ⟨nl,s⟩=some ⟨nl',s++l.map Z10.FName⟩/\(nl'=true->s++l.map Z10.FName=[])
 | [],nl,s,h,_=>⟨nl,by rw [Z26_q8]; simp,by simpa using h⟩
 | x::r,nl,s,h,hl=>by
  simp only [List.length_cons] at hl;rw [Z26_q8];simp only [Ab.on];rw [appC_ok (by decide) (by simp only [List.length_cons,List.length_nil]; omega),Option.bind_some];obtain⟨nl',e1,e2⟩:=names_loop r (nl&&([x.FName]:List Bs).isEmpty) (s++[x.FName]) (fun e=>by simp at e) (by simp only [List.length_append,List.length_cons,List.length_nil]; omega);rw [List.append_assoc] at e1 e2;exact⟨nl',e1,e2⟩
theorem names_is {t:TDef}(h:t.FMembers.l.length<=1048576):∃nl,Z26_q t.FMembers=some ⟨nl,t.FMembers.l.map Z10.FName⟩/\SOk (⟨nl,t.FMembers.l.map Z10.FName⟩:Sl Bs):=by
 obtain⟨nl,e1,e2⟩:=names_loop t.FMembers.l true [] (fun _=>rfl) (by simp only [List.length_nil]; omega);refine⟨nl, ?_, ?_, ?_⟩
 ·unfold Z26_q;rw [show (Sl.nil:Sl Bs)=⟨true,[]⟩ from rfl,e1,Option.bind_some]; rfl
 ·simpa using e2
 ·simp only [List.length_map]; omega
def mis (a b:List Bs):List Bs:=a.filter fun s=>!b.contains s
theorem indexX (s:Bs) (l:List Bs):∀n:Nat,(l.contains s=false->Z125_q6 s l n=Sum.inl ())/\(l.contains s=true->∃m:Nat,Z125_q6 s l n=Sum.inr (m:Int)):=by
 induction l with
 | nil=>intro n; exact⟨fun _=>rfl,fun h=>by simp at h⟩
 | cons a r ih =>
  intro n;rw [Z125_q6];simp only [Ab.on,List.contains_cons];cases s==a
  ·simp only [Bool.false_or,cond_false]; exact ih (n+1)
  ·simp only [Bool.true_or,cond_true]; exact⟨fun h=>by simp at h,fun _=>⟨n,rfl⟩⟩
theorem contains_is (a:Sl Bs) (s:Bs):Z122_q a s=a.l.contains s:=by
 unfold Z122_q Z125_q;simp only [Ab.on];have h:=indexX s a.l 0;cases hc:a.l.contains s
 ·rw [h.1 hc]; rfl
 ·obtain⟨m,e⟩:=h.2 hc;rw [e]; exact decide_eq_true (by simp)
theorem clone_is {a:Sl Bs}(h:SOk a):∃nl,Z121_q a=some ⟨nl,a.l⟩:=by
 unfold Z121_q;cases hn:a.nl
 ·rw [cond_false,appC_ok (by decide) (by have:=h.2; simp only [List.length_nil]; omega),Option.bind_some]; exact⟨_,rfl⟩
 ·rw [cond_true,h.1 hn]; exact⟨true,rfl⟩
theorem missing_is {a:Sl Bs}(h:SOk a) (b:Sl Bs):∃nl,Z24_q a b=some ⟨nl,mis a.l b.l⟩:=by
 obtain⟨nl,e⟩:=clone_is h;unfold Z24_q;rw [e,Option.bind_some,Option.bind_some];refine⟨nl, ?_⟩;have h2:(fun x=>!((fun y0=>Z25 y0 b) x).getD false)=fun s=>!b.l.contains s:=by
  funext x
  show (!((Z25 x b).getD false))=_;rw [Z25_eq,Option.getD_some];unfold Z25_q;simp only [Ab.on,contains_is]
 unfold delL mis;rw [h2]
theorem mem57_df {n:Bs}:∀(l:List Bs) (nl:Bool) (s:List Z5),DF (Z17_q57 l (Z0.mk n ⟨nl,s⟩)) n s (l.map fun x=>Z5.mk 11 n x [] [] [])
 | [],nl,s=>by rw [Z17_q57]; exact DF.pure n nl s
 | x::r,nl,s=>by
  rw [Z17_q57];simp only [Ab.on];exact DF.bind (X:=[_]) (add_df n nl s _ _ _ _ _) fun nl=>mem57_df r nl _
theorem mem44_df {n:Bs}:∀(l:List Bs) (nl:Bool) (s:List Z5),DF (Z17_q44 l (Z0.mk n ⟨nl,s⟩)) n s (l.map fun x=>Z5.mk 12 n x [] [] [])
 | [],nl,s=>by rw [Z17_q44]; exact DF.pure n nl s
 | x::r,nl,s=>by
  rw [Z17_q44];simp only [Ab.on];exact DF.bind (X:=[_]) (add_df n nl s _ _ _ _ _) fun nl=>mem44_df r nl _
theorem mem31_df {n:Bs}:∀(l:List Bs) (nl:Bool) (s:List Z5),DF (Z17_q31 l (Z0.mk n ⟨nl,s⟩)) n s (l.map fun x=>Z5.mk 17 n [] [] x [])
 | [],nl,s=>by rw [Z17_q31]; exact DF.pure n nl s
 | x::r,nl,s=>by
  rw [Z17_q31];simp only [Ab.on];exact DF.bind (X:=[_]) (add_df n nl s _ _ _ _ _) fun nl=>mem31_df r nl _
theorem mem18_df {n:Bs}:∀(l:List Bs) (nl:Bool) (s:List Z5),DF (Z17_q18 l (Z0.mk n ⟨nl,s⟩)) n s (l.map fun x=>Z5.mk 18 n [] [] [] x)
 | [],nl,s=>by rw [Z17_q18]; exact DF.pure n nl s
 | x::r,nl,s=>by
  rw [Z17_q18];simp only [Ab.on];exact DF.bind (X:=[_]) (add_df n nl s _ _ _ _ _) fun nl=>mem18_df r nl _
def nam (t:TDef):List Bs:=t.FMembers.l.map Z10.FName
def dfX (n:Bs) (x y:TDef):List Z5 :=
 fdX n x.FFields.l y.FFields.l++((mis (nam x) (nam y)).map (fun s=>Z5.mk 11 n s [] [] [])++((mis (nam y) (nam x)).map (fun s=>Z5.mk 12 n s [] [] [])++(inX n K13 (fun s=>(s,[])) x.FInputs.l y.FInputs.l ++
  ((mis x.FImplements.l y.FImplements.l).map (fun s=>Z5.mk 17 n [] [] s [])++(mis y.FImplements.l x.FImplements.l).map (fun s=>Z5.mk 18 n [] [] [] s)))))
theorem def_df {n:Bs}{t u:TDef}(ht:TOk t) (hu:TOk u) (nl:Bool) (s:List Z5):DF (Z17_q (Z0.mk n ⟨nl,s⟩) t u) n s (dfX n t u):=by
 obtain⟨n1,e1,o1⟩:=names_is ht.m;obtain⟨n2,e2,o2⟩:=names_is hu.m;obtain⟨n3,e3⟩:=missing_is o1 ⟨n2,u.FMembers.l.map Z10.FName⟩;obtain⟨n4,e4⟩:=missing_is o2 ⟨n1,t.FMembers.l.map Z10.FName⟩;obtain⟨n5,e5⟩:=missing_is ht.p u.FImplements;obtain⟨n6,e6⟩:=missing_is hu.p t.FImplements;unfold Z17_q dfX;refine DF.bind (fields_df ht hu nl s) fun nl=>?_;rw [e1,Option.bind_some,e2,Option.bind_some,e3,Option.bind_some]
 simp only [Ab.on];refine DF.bind (mem57_df _ nl _) fun nl=>?_;rw [e4,Option.bind_some];refine DF.bind (mem44_df _ nl _) fun nl=>?_;refine DF.bind (inputs_df (p:=fun s=>(s,[])) (fun s=>rfl) ht.i hu.i nl _) fun nl=>?_;rw [e5,Option.bind_some];refine DF.bind (mem31_df _ nl _) fun nl=>?_;rw [e6,Option.bind_some];exact(mem18_df _ nl _).id
def tyG (t:TDef):List Z5:=[Z5.mk 1 t.FName [] [] (Z23_q t.FKind) []]
def tyN (t:TDef):List Z5:=[Z5.mk 2 t.FName [] [] [] (Z23_q t.FKind)]
def tyW (x y:TDef):List Z5:=bif !decide (x.FKind=y.FKind) then [Z5.mk 3 x.FName [] [] (Z23_q x.FKind) (Z23_q y.FKind)] else dfX x.FName x y
def diffX (A B:List TDef):List Z5:=lon TDef.FName tyG A B++(prs TDef.FName tyW A B++lon TDef.FName tyN B A)
theorem findI (l:List TDef) (s:Bs):Z118_q7 s l=(match l.find? (fun t=>t.FName==s) with|some t=>Sum.inr (t,true)|none=>Sum.inl ()):=by
 induction l with
 | nil=>rfl
 | cons a r ih =>
  rw [Z118_q7,List.find?_cons];simp only [Ab.on];cases a.FName==s
  ·exact ih
  ·rfl
theorem find_is (d:TDoc) (s:Bs):(∃y,d.FDefs.l.find? (fun t=>t.FName==s)=some y/\Z118_q d s=(y,true))\/(d.FDefs.l.find? (fun t=>t.FName==s)=none/\(Z118_q d s).2=false):=by
 unfold Z118_q;simp only [Ab.on,findI];cases d.FDefs.l.find? (fun t=>t.FName==s) with
 | none=>exact .inr ⟨rfl,rfl⟩
 | some y=>exact .inl ⟨y,rfl,rfl⟩
def DA (o:Option Z0) (s X:List Z5):Prop:=s.length+X.length<=maxD->∃n nl,o=some (Z0.mk n ⟨nl,s++X⟩)
theorem DA.pure (n:Bs) (nl:Bool) (s:List Z5):DA (some (Z0.mk n ⟨nl,s⟩)) s []:=fun _=>⟨n,nl,by simp⟩
theorem DA.bind {o:Option Z0}{f:Z0->Option Z0}{s X Y:List Z5}(h:DA o s X) (hf:∀n nl,DA (f (Z0.mk n ⟨nl,s++X⟩)) (s++X) Y):DA (o.bind f) s (X++Y):=fun hb=>by
 rw [List.length_append] at hb;obtain⟨n,nl,e⟩:=h (by omega);obtain⟨m,nl2,e2⟩:=hf n nl (by rw [List.length_append]; omega);exact⟨m,nl2,by rw [e,Option.bind_some,e2,List.append_assoc]⟩
theorem DF.da {o:Option Z0}{n:Bs}{s X:List Z5}(h:DF o n s X):DA o s X:=fun hb=>by
 obtain⟨nl,e⟩:=h hb;exact⟨n,nl,e⟩
theorem diff56_da (b:TDoc):∀(A:List TDef) (n:Bs) (nl:Bool) (s:List Z5),DA (Z14_q56 b A (Z0.mk n ⟨nl,s⟩)) s (lon TDef.FName tyG A b.FDefs.l)
 | [],n,nl,s=>by rw [Z14_q56]; exact DA.pure n nl s
 | x::r,n,nl,s=>by
  have ih:=fun n nl s=>diff56_da b r n nl s;rw [Z14_q56];simp only [Ab.on];unfold lon at ih ⊢;rw [List.flatMap_cons];refine DA.bind ?_ fun n nl=>ih n nl _;rcases find_is b x.FName with ⟨y,e1,e2⟩|⟨e1,e2⟩
  ·rw [e1,e2]; exact DA.pure _ _ _
  ·rw [e1,e2];exact(add_df _ _ _ _ _ _ _ _).id.da
theorem diff14_da (b:TDoc):∀(A:List TDef) (n:Bs) (nl:Bool) (s:List Z5),DA (Z14_q14 b A (Z0.mk n ⟨nl,s⟩)) s (lon TDef.FName tyN A b.FDefs.l)
 | [],n,nl,s=>by rw [Z14_q14]; exact DA.pure n nl s
 | x::r,n,nl,s=>by
  have ih:=fun n nl s=>diff14_da b r n nl s;rw [Z14_q14];simp only [Ab.on];unfold lon at ih ⊢;rw [List.flatMap_cons];refine DA.bind ?_ fun n nl=>ih n nl _;rcases find_is b x.FName with ⟨y,e1,e2⟩|⟨e1,e2⟩
  ·rw [e1,e2]; exact DA.pure _ _ _
  ·rw [e1,e2];exact(add_df _ _ _ _ _ _ _ _).id.da
theorem diff33_da {b:TDoc}(hb:∀t∈b.FDefs.l,TOk t):∀(A:List TDef) (n:Bs) (nl:Bool) (s:List Z5),(∀t∈A,TOk t)->DA (Z14_q33 b A (Z0.mk n ⟨nl,s⟩)) s (prs TDef.FName tyW A b.FDefs.l)
 | [],n,nl,s,_=>by rw [Z14_q33]; exact DA.pure n nl s
 | x::r,n,nl,s,hA=>by
  have ih:=fun n nl s=>diff33_da hb r n nl s fun y hy=>hA y (.tail _ hy);rw [Z14_q33];simp only [Ab.on];unfold prs at ih ⊢;rw [List.flatMap_cons];refine DA.bind ?_ fun n nl=>ih n nl _;rcases find_is b x.FName with ⟨y,e1,e2⟩|⟨e1,e2⟩
  ·rw [e1,e2];simp only [Bool.not_true,cond_false];unfold tyW;cases decide (x.FKind=y.FKind)
   ·exact(add_df _ _ _ _ _ _ _ _).id.da
   ·exact(def_df (hA x (.head _)) (hb y (List.mem_of_find?_eq_some e1)) nl s).id.da
  ·rw [e1,e2]; exact DA.pure _ _ _
theorem diff_is {a b:TDoc}(ha:∀t∈a.FDefs.l,TOk t) (hb:∀t∈b.FDefs.l,TOk t) (hl:(diffX a.FDefs.l b.FDefs.l).length<=maxD):∃nl,Z14_q a b=some ⟨nl,diffX a.FDefs.l b.FDefs.l⟩:=by
 have h:DA (Option.bind (Z14_q56 b a.FDefs.l (Z0.mk ([]:Bs) (Sl.nil:Sl Z5))) fun y58=>on (y58) fun y6=>Option.bind (Z14_q33 b a.FDefs.l y6) fun y35=>on (y35) fun y8=>Z14_q14 a b.FDefs.l y8) [] (diffX a.FDefs.l b.FDefs.l):=by
  unfold diffX;refine DA.bind (diff56_da b a.FDefs.l [] true []) fun n nl=>?_;simp only [Ab.on];refine DA.bind (diff33_da hb a.FDefs.l n nl _ ha) fun n nl=>?_;exact diff14_da a b.FDefs.l n nl _
 obtain⟨n,nl,e⟩:=h (by simpa using hl);refine⟨nl, ?_⟩;have e':Z14_q a b=(Option.bind (Z14_q56 b a.FDefs.l (Z0.mk ([]:Bs) (Sl.nil:Sl Z5))) fun y58=>on (y58) fun y6=>Option.bind (Z14_q33 b a.FDefs.l y6) fun y35=>on (y35) fun y8=>Z14_q14 a b.FDefs.l y8).bind fun z=>some z.Fout:=by
  unfold Z14_q;simp only [Ab.on,Option.bind_assoc]
 rw [e',e]; rfl
end Go.Proofs

namespace Go.Proofs
open Go Go.Ab
def swK (k:Int):Int:=if k=1\/k=11\/k=13\/k=17\/k=4\/k=7 then k+1 else if k=2\/k=12\/k=14\/k=18\/k=5\/k=8 then k-1 else k
structure KOk (K:Z1):Prop where
 g:swK K.Fgone=K.Fadd
 a:swK K.Fadd=K.Fgone
 t:swK K.Ftyp=K.Ftyp
 d:swK K.Fdef=K.Fdef
structure DDst (t:TDef):Prop where
 f:Dst Z7.FName t.FFields.l
 a:∀x∈t.FFields.l,Dst Z9.FName x.FArgs.l
 i:Dst Z9.FName t.FInputs.l
theorem inX_len (n:Bs) (K:Z1) (p:Bs->Bs×Bs){A B:List Z9}(dA:Dst Z9.FName A) (dB:Dst Z9.FName B):(inX n K p A B).length<=2*A.length+B.length:=by
 have h:=dif_len (w:=inW n K p) (g:=inG n K p) (n:=inN n K p) (f:=fun _=>2) (e:=fun _=>1) dA dB (fun x _ y _=>by
  unfold inW; rw [List.length_append];have h1:(bif !saV x.FType y.FType then [Z5.mk K.Ftyp n (p x.FName).1 (p x.FName).2 (prX x.FType) (prX y.FType)] else []).length<=1:=by cases saV x.FType y.FType<;>simp
  have h2:(bif (!(x.FHas==y.FHas))||(x.FHas&&!vsX x.FDefault y.FDefault) then [Z5.mk K.Fdef n (p x.FName).1 (p x.FName).2 (deX x) (deX y)] else []).length<=1:=by cases ((!(x.FHas==y.FHas))||(x.FHas&&!vsX x.FDefault y.FDefault))<;>simp
  omega) (fun _ _=>by unfold inG; simp) (fun _ _=>by unfold inN; simp)
 have h2:∀(c:Nat) (l:List Z9),(l.map fun _=>c).sum=c*l.length:=by
  intro c l;induction l with
  | nil=>rfl
  | cons a r ih=>simp only [List.map_cons,List.sum_cons,List.length_cons,ih,Nat.mul_succ]; omega
 rw [h2,h2] at h;unfold inX; omega
def fw (f:Z7):Nat:=1+f.FArgs.l.length
def tw (t:TDef):Nat:=(t.FFields.l.map fw).sum+t.FMembers.l.length+t.FInputs.l.length+t.FImplements.l.length
def dw (A:List TDef):Nat:=(A.map fun t=>1+tw t).sum
theorem mulS {α:Type}(c:Nat) (f:α->Nat) (l:List α):(l.map fun x=>c*f x).sum=c*(l.map f).sum:=by
 induction l with
 | nil=>simp
 | cons a r ih=>simp only [List.map_cons,List.sum_cons,ih,Nat.mul_add]
theorem fdX_len (n:Bs){t u:TDef}(dt:DDst t) (du:DDst u):(fdX n t.FFields.l u.FFields.l).length<=2*(t.FFields.l.map fw).sum+(u.FFields.l.map fw).sum:=by
 have h:=dif_len (w:=fdW n) (g:=fdG n) (n:=fdN n) (f:=fun x=>2*fw x) (e:=fw) dt.f du.f (fun x hx y hy=>by
  unfold fdW; rw [List.length_append];have h1:(bif !saV x.FType y.FType then [Z5.mk 6 n x.FName [] (prX x.FType) (prX y.FType)] else []).length<=1:=by cases saV x.FType y.FType<;>simp
  have h2:=inX_len n K7 (fun s=>(x.FName,s)) (dt.a x hx) (du.a y hy);unfold fw; omega) (fun _ _=>by unfold fdG fw; simp; omega) (fun _ _=>by unfold fdN fw; simp)
 rw [mulS] at h;unfold fdX; omega
theorem mis_len (a b:List Bs):(mis a b).length<=a.length:=List.length_filter_le _ _
theorem dfX_len (n:Bs){t u:TDef}(dt:DDst t) (du:DDst u):(dfX n t u).length<=2*tw t+tw u:=by
 have h1:=fdX_len n dt du;have h2:=inX_len n K13 (fun s=>(s,[])) dt.i du.i;have h3:=mis_len (nam t) (nam u);have h4:=mis_len (nam u) (nam t);have h5:=mis_len t.FImplements.l u.FImplements.l;have h6:=mis_len u.FImplements.l t.FImplements.l;have h7:(nam t).length=t.FMembers.l.length:=List.length_map _;have h8:(nam u).length=u.FMembers.l.length:=List.length_map _;unfold dfX tw;simp only [List.length_append,List.length_map]
 omega
theorem diffX_len {A B:List TDef}(dA:Dst TDef.FName A) (dB:Dst TDef.FName B) (eA:∀t∈A,DDst t) (eB:∀t∈B,DDst t):(diffX A B).length<=2*dw A+dw B:=by
 have h:=dif_len (w:=tyW) (g:=tyG) (n:=tyN) (f:=fun x=>2*(1+tw x)) (e:=fun x=>1+tw x) dA dB (fun x hx y hy=>by
  unfold tyW;have:=dfX_len x.FName (eA x hx) (eB y hy);cases decide (x.FKind=y.FKind)
  ·simp; omega
  ·simp only [Bool.not_true,cond_false]; omega) (fun _ _=>by unfold tyG; simp; omega) (fun _ _=>by unfold tyN; simp)
 rw [mulS] at h;have h2:=(dif_split TDef.FName tyW tyG A B).length_eq;unfold diffX dw;rw [List.length_append] at h h2;simp only [List.length_append];omega
end Go.Proofs

namespace Go.Proofs
open Go Go.Ab
end Go.Proofs

namespace Go.Proofs
open Go Go.Ab
def Pf (o:Option (Sl Z6)) (s:List Z6) (P:Prop):Prop:=∀r,o=some r->(s≠[]->r.l≠[])/\(r.l=[]->P)
theorem Pf.pure {u:Sl Z6}{P:Prop}(h:P):Pf (some u) u.l P:=fun r e=>by cases e; exact⟨fun h=>h,fun _=>h⟩
theorem Pf.imp {o:Option (Sl Z6)}{s:List Z6}{P Q:Prop}(h:Pf o s P) (hi:P->Q):Pf o s Q:=fun r e=>⟨(h r e).1,fun h2=>hi ((h r e).2 h2)⟩
theorem Pf.none (s:List Z6) (P:Prop):Pf Option.none s P:=fun r e=>(by cases e)
theorem Pf.bind {o:Option (Sl Z6)}{f:Sl Z6->Option (Sl Z6)}{s:List Z6}{P Q:Prop}(h:Pf o s P) (hf:∀u:Sl Z6,Pf (f u) u.l Q):Pf (o.bind f) s (P/\Q):=fun r e=>by
 cases ho:o with
 | none=>rw [ho] at e; cases e
 | some u =>
  rw [ho] at e;have h1:=h u ho;have h2:=hf u r e;refine⟨fun hs=>h2.1 (h1.1 hs),fun hr=>⟨h1.2 ?_,h2.2 hr⟩⟩;exact Classical.byContradiction fun hc=>h2.1 hc hr
theorem Pf.skip {α:Type}{o:Option α}{f:α->Option (Sl Z6)}{s:List Z6}{Q:Prop}(hf:∀u,o=some u->Pf (f u) s Q):Pf (o.bind f) s Q:=fun r e=>by
 cases ho:o with
 | none=>rw [ho] at e; cases e
 | some u=>rw [ho] at e; exact hf u ho r e
theorem Pf.guard {α:Type}{c:Bool}{o:Option α}{d:α}{f:α->Option (Sl Z6)}{s:List Z6}{Q:Prop}(hf:∀u,(c=true->o=some u)->Pf (f u) s Q):Pf (guardO c o d f) s Q:=by
 cases c
 ·exact hf d fun h=>(by cases h)
 ·intro r e;cases ho:o with
  | none=>rw [ho] at e; cases e
  | some u=>rw [ho] at e; exact hf u (fun _=>ho) r e
theorem app_l {α:Type}{z:Nat}{s r u:Sl α}(h:appC z s r=some u):u.l=s.l++r.l:=by
 unfold appC at h
 split at h
 ·cases h; rfl
 ·cases h
theorem Pf.add (u:Sl Z6) (b:Bool) (x:Z6) (P:Prop):Pf (appC 24 u ⟨b,[x]⟩) u.l P:=fun r e=>by
 have:=app_l e;rw [this];exact⟨fun _=>by simp,fun h=>by simp at h⟩
theorem Pf.id {o:Option (Sl Z6)}{s:List Z6}{P:Prop}(h:Pf o s P):Pf (o.bind fun x=>some x) s P:=fun r e=>by
 cases ho:o with
 | none=>rw [ho] at e; cases e
 | some u=>rw [ho] at e; cases e; exact h _ ho
theorem Pf.app {o:Option (Sl Z6)}{P:Prop}(s:Sl Z6) (h:Pf o [] P):Pf (o.bind fun x=>appC 24 s x) s.l P:=fun r e=>by
 cases ho:o with
 | none=>rw [ho] at e; cases e
 | some u =>
  rw [ho] at e;have h1:=app_l e;rw [h1];exact⟨fun hs=>by simp [hs],fun h2=>(h u ho).2 (List.append_eq_nil_iff.1 h2).2⟩
theorem Pf.appB {o:Option (Sl Z6)}{k:Sl Z6->Option (Sl Z6)}{P Q:Prop}(s:Sl Z6) (h:Pf o [] P) (hk:∀u:Sl Z6,Pf (k u) u.l Q):Pf (o.bind fun x=>(appC 24 s x).bind k) s.l (P/\Q):=by
 have:=(Pf.app s h).bind hk
 rwa [Option.bind_assoc] at this
def Gn {α:Type}(key:α->Bs) (l:List α) (j:Nat):Prop:=∀x,l[j]?=some x->∀m y,m<j->l[m]?=some y->key y≠key x
theorem dst_of {α:Type}{key:α->Bs}{l:List α}(h:∀j,Gn key l j):Dst key l:=by
 unfold Dst;rw [List.pairwise_iff_getElem];intro i j hi hj hij;exact h j _ (List.getElem?_eq_getElem hj) i _ hij (List.getElem?_eq_getElem hi)
theorem gn_any {α:Type}{key:α->Bs}{l:List α}{j:Nat}(h:∀x,l[j]?=some x->((l.take j).any fun y=>key y==key x)=false):Gn key l j:=fun x hx m y hm hy e=>by
 have h1:=h x hx;rw [List.any_eq_false] at h1;have h2:y∈l.take j:=by
  have:(l.take j)[m]?=some y:=by rw [List.getElem?_take_of_lt hm]; exact hy
  exact List.mem_of_getElem? this
 exact h1 y h2 (beq_iff_eq.mpr e)
theorem names_pf (n:Bs) (bad before:Bool) (a:Bs):Pf (Z89_q n bad before a) [] (before=false):=by
 unfold Z89_q;refine Pf.guard fun u _=>?_;refine(Pf.bind (P:=True) (Q:=before=false) ?_ fun u=>?_).imp And.right
 ·cases (bad||!u)
  ·exact Pf.pure (u:=(Sl.nil:Sl Z6)) trivial
  ·exact(Pf.add (Sl.nil:Sl Z6) _ _ _).id
 ·refine Pf.id ?_;cases before
  ·exact Pf.pure rfl
  ·exact(Pf.add _ _ _ _).id
theorem input6_any (n:Bs):∀l:List Z9,(match Z76_q6 n l with|.inl _=>false|.inr e=>e.2)=l.any fun y=>y.FName==n
 | []=>rfl
 | a::r=>by
  rw [Z76_q6,List.any_cons];simp only [Ab.on];cases a.FName==n
  ·exact input6_any n r
  ·rfl
theorem input_any (s:Sl Z9) (n:Bs):(Z76_q s n).2=s.l.any fun y=>y.FName==n:=by
 rw [<- input6_any];unfold Z76_q;simp only [Ab.on];cases Z76_q6 n s.l<;>rfl
theorem field6_any (n:Bs):∀l:List Z7,(match Z74_q6 n l with|.inl _=>false|.inr e=>e.2)=l.any fun y=>y.FName==n
 | []=>rfl
 | a::r=>by
  rw [Z74_q6,List.any_cons];simp only [Ab.on];cases a.FName==n
  ·exact field6_any n r
  ·rfl
theorem field_any (t:TDef) (n:Bs):(Z74_q t n).2=t.FFields.l.any fun y=>y.FName==n:=by
 rw [<- field6_any];unfold Z74_q;simp only [Ab.on];cases Z74_q6 n t.FFields.l<;>rfl
theorem drop_hd {α:Type}{l r:List α}{i:Nat}{x:α}(h:l.drop i=x::r):l[i]?=some x/\l.drop (i+1)=r:=by
 have hi:i<l.length:=by
  rcases Nat.lt_or_ge i l.length with c|c
  ·exact c
  ·rw [List.drop_of_length_le c] at h; cases h
 rw [List.drop_eq_getElem_cons hi] at h;simp only [List.cons.injEq] at h;exact⟨by rw [List.getElem?_eq_getElem hi,h.1],h.2⟩
theorem drop_nil_get {α:Type}{l:List α}{i j:Nat}(h:l.drop i=[]) (hj:i<=j):l[j]?=none:=List.getElem?_eq_none (by have:=congrArg List.length h; simp at this; omega)
theorem inputs_pf (d:TDoc) (a1:Sl Z9) (p q:Bs):∀(l:List Z9) (i:Nat) (s:Sl Z6),a1.l.drop i=l->Pf (Z86_q7 d a1 p q l i s) s.l (∀j,i<=j->Gn Z9.FName a1.l j)
 | [],i,s,h=>by
  rw [Z86_q7];exact Pf.pure fun j hj x hx=>by rw [drop_nil_get h hj] at hx; cases hx
 | a::r,i,s,h=>by
  obtain⟨h1,h2⟩:=drop_hd h;rw [Z86_q7];simp only [Ab.on];refine Pf.skip fun t _=>Pf.skip fun t _=>?_;refine(Pf.appB (Q:=∀j,i+1<=j->Gn Z9.FName a1.l j) s (names_pf _ _ _ _) fun u=>?_).imp fun⟨z1,z2⟩ j hj=>?_
  ·refine(Pf.bind (P:=True) ?_ fun u=>inputs_pf d a1 p q r (i+1) u h2).imp And.right;cases Z87_q d a.FType.FName
   ·exact(Pf.add _ _ _ _).id
   ·cases Z77_q d a.FType.FName
    ·exact(Pf.add _ _ _ _).id
    ·exact Pf.pure trivial
  ·rcases Nat.lt_or_ge i j with c|c
   ·exact z2 j c
   ·obtain rfl:j=i:=by omega
    rw [input_any] at z1;exact gn_any fun x hx=>by rw [h1] at hx; cases hx; exact z1
theorem inputs_dst (d:TDoc) (a1:Sl Z9) (p q:Bs):Pf (Z86_q d a1 p q) [] (Dst Z9.FName a1.l):=by
 unfold Z86_q;exact((inputs_pf d a1 p q a1.l 0 Sl.nil rfl).imp fun h=>dst_of fun j=>h j (Nat.zero_le j)).id
theorem fields_pf (d:TDoc) (t:TDef):∀(l:List Z7) (i:Nat) (s:Sl Z6),t.FFields.l.drop i=l->Pf (Z84_q7 d t l i s) s.l (∀j,i<=j->Gn Z7.FName t.FFields.l j/\∀x,t.FFields.l[j]?=some x->Dst Z9.FName x.FArgs.l)
 | [],i,s,h=>by
  rw [Z84_q7];exact Pf.pure fun j hj=>⟨fun x hx=>(by rw [drop_nil_get h hj] at hx; cases hx),fun x hx=>(by rw [drop_nil_get h hj] at hx; cases hx)⟩
 | a::r,i,s,h=>by
  obtain⟨h1,h2⟩:=drop_hd h;rw [Z84_q7];simp only [Ab.on];refine Pf.skip fun t1 _=>Pf.skip fun t2 _=>?_;refine(Pf.appB (Q:=Dst Z9.FName a.FArgs.l/\∀j,i+1<=j->Gn Z7.FName t.FFields.l j/\∀x,t.FFields.l[j]?=some x->Dst Z9.FName x.FArgs.l) s (names_pf _ _ _ _) fun u=>?_).imp fun⟨z1,z2,z3⟩ j hj=>?_
  ·refine(Pf.bind (P:=True) ?_ fun u=>?_).imp And.right
   ·cases Z87_q d a.FType.FName
    ·exact(Pf.add _ _ _ _).id
    ·rw [Bool.not_true,cond_false];generalize (((!Z79_q a.FType.FName)&&(Z75_q d a.FType.FName).2)&&(decide ((Z75_q d a.FType.FName).1.FKind=(5:Int))))=c;cases c
     ·exact Pf.pure trivial
     ·exact(Pf.add _ _ _ _).id
   ·refine Pf.skip fun t3 _=>?_;exact Pf.appB u (inputs_dst _ _ _ _) fun u=>fields_pf d t r (i+1) u h2
  ·rcases Nat.lt_or_ge i j with c|c
   ·exact z3 j c
   ·obtain rfl:j=i:=by omega
    rw [field_any] at z1;exact⟨gn_any fun x hx=>(by rw [h1] at hx; cases hx; exact z1),fun x hx=>(by rw [h1] at hx; cases hx; exact z2)⟩
theorem fields_dst (d:TDoc) (t:TDef):Pf (Z84_q d t) [] (Dst Z7.FName t.FFields.l/\∀x∈t.FFields.l,Dst Z9.FName x.FArgs.l):=by
 unfold Z84_q;refine((fields_pf d t t.FFields.l 0 Sl.nil rfl).imp fun h=>⟨dst_of fun j=>(h j (Nat.zero_le j)).1,fun x hx=>?_⟩).id;obtain⟨j,hj,rfl⟩:=List.mem_iff_getElem.1 hx;exact(h j (Nat.zero_le j)).2 _ (List.getElem?_eq_getElem hj)
theorem addC_l {a b c:Int}(h:addC a b=some c):c=a+b:=by
 unfold addC at h
 split at h
 ·cases h; rfl
 ·cases h
theorem j13_pf (d:TDoc) (t:TDef) (s:Sl Z6):Pf (Z91_j13 d t s) s.l True:=by
 unfold Z91_j13 Z91_j15;refine Pf.skip fun c _=>?_;cases c
 ·exact Pf.pure trivial
 ·exact(Pf.add _ _ _ _).id
theorem j10_pf (d:TDoc) (t:TDef) (s:Sl Z6):Pf (Z91_j10 d t s) s.l True:=by
 unfold Z91_j10;generalize (((((((t.FName==([81,117,101,114,121]:Bs)))||((t.FName==([77,117,116,97,116,105,111,110]:Bs))))||((t.FName==([83,117,98,115,99,114,105,112,116,105,111,110]:Bs))))&&(!decide (t.FKind=(1:Int))))||(decide (t.FKind<(1:Int))))||(decide ((5:Int)<t.FKind)))=c;cases c
 ·exact j13_pf d t s
 ·exact(Pf.bind (P:=True) (Pf.add _ _ _ _) fun u=>j13_pf d t u).imp fun _=>trivial
theorem j6_pf (d:TDoc) (t:TDef) (b:Bool):Pf (Z91_j6 d t b) [] (b=false):=by
 unfold Z91_j6;rw [Z89_eq];refine(Pf.bind (Q:=True) (names_pf _ _ _ _) fun u=>?_).imp And.left;refine Pf.skip fun c _=>?_;cases c
 ·exact j10_pf d t u
 ·exact(Pf.bind (P:=True) (Pf.add _ _ _ _) fun u=>j10_pf d t u).imp fun _=>trivial
theorem l30_pf (d:TDoc) (t:TDef) (i:Nat):∀(n k:Nat) (b:Bool),Pf (Z91_l30 d (i:Int) t n b (k:Int)) [] (b=false/\∀m y,k<=m->m<i->d.FDefs.l[m]?=some y->y.FName≠t.FName)
 | 0,k,b=>by rw [Z91_l30]; exact Pf.none _ _
 | n+1,k,b=>by
  rw [Z91_l30];by_cases hk:k<i
  ·rw [decide_eq_true (by omega:((k:Nat):Int)<((i:Nat):Int)),cond_true];refine Pf.guard fun x hx=>Pf.skip fun k' hk'=>?_;have e:k'=((k+1:Nat):Int):=by rw [addC_l hk']; omega
   rw [e];refine(l30_pf d t i n (k+1) (b||x.FName==t.FName)).imp fun⟨h1,h2⟩=>?_;rw [Bool.or_eq_false_iff] at h1;refine⟨h1.1,fun m y m1 m2 hy=>?_⟩;rcases Nat.lt_or_ge k m with c|c
   ·exact h2 m y c m2 hy
   ·obtain rfl:m=k:=by omega
    have hx2:=hx (by rw [h1.1]; rfl);unfold idxC at hx2;rw [if_pos (by omega),Int.toNat_natCast,hy] at hx2;cases hx2;exact beq_eq_false_iff_ne.1 h1.2
  ·rw [decide_eq_false (by omega:¬((k:Nat):Int)<((i:Nat):Int)),cond_false];exact(j6_pf d t b).imp fun h=>⟨h,fun m y m1 m2=>by omega⟩
theorem whole_pf (d:TDoc) (i:Nat):Pf (Z91_q d (i:Int)) [] (Gn TDef.FName d.FDefs.l i):=by
 unfold Z91_q Z91;refine Pf.skip fun x hx=>Pf.skip fun b _=>?_;refine(l30_pf d x i F0 0 b).imp fun⟨_,h2⟩=>?_;intro z hz m y hm hy;unfold idxC at hx;rw [if_pos (by omega),Int.toNat_natCast,hz] at hx;cases hx;exact h2 m y (Nat.zero_le m) hm hy
def PartD (t:TDef):Prop:=(t.FKind=1\/t.FKind=2->Dst Z7.FName t.FFields.l/\∀x∈t.FFields.l,Dst Z9.FName x.FArgs.l)/\(t.FKind=5->Dst Z9.FName t.FInputs.l)
theorem check_pf (d:TDoc):∀(l:List TDef) (i:Nat) (s:Sl Z6),d.FDefs.l.drop i=l->Pf (Z73_q14 d l i s) s.l (∀j,i<=j->Gn TDef.FName d.FDefs.l j/\∀x,d.FDefs.l[j]?=some x->PartD x)
 | [],i,s,h=>by
  rw [Z73_q14];exact Pf.pure fun j hj=>⟨fun x hx=>(by rw [drop_nil_get h hj] at hx; cases hx),fun x hx=>(by rw [drop_nil_get h hj] at hx; cases hx)⟩
 | a::r,i,s,h=>by
  obtain⟨h1,h2⟩:=drop_hd h;rw [Z73_q14];simp only [Ab.on];refine(Pf.appB (Q:=PartD a/\∀j,i+1<=j->Gn TDef.FName d.FDefs.l j/\∀x,d.FDefs.l[j]?=some x->PartD x) s (whole_pf d i) fun u=>?_).imp fun⟨z1,z2,z3⟩ j hj=>?_
  ·refine Pf.bind ?_ fun u=>check_pf d r (i+1) u h2;have e12:(bif (decide (a.FKind=(1:Int))) then((decide (a.FKind=(1:Int)))) else((decide (a.FKind=(2:Int)))))=decide (a.FKind=1\/a.FKind=2):=by
    by_cases c1:a.FKind=1<;>by_cases c2:a.FKind=2<;>simp [c1,c2]
   rw [e12];by_cases c12:a.FKind=1\/a.FKind=2
   ·rw [decide_eq_true c12,cond_true];have:=(Pf.app u (fields_dst d a)).id;rw [Option.bind_assoc] at this;exact this.imp fun h=>⟨fun _=>h,fun h5=>by omega⟩
   ·rw [decide_eq_false c12,cond_false];by_cases c4:a.FKind=4
    ·rw [decide_eq_true c4,cond_true];have:=(Pf.app (P:=True) u (o:=Z88_q a) fun r _=>⟨fun h=>absurd rfl h,fun _=>trivial⟩).id;rw [Option.bind_assoc] at this;exact this.imp fun _=>⟨fun h=>absurd h c12,fun h5=>by omega⟩
    ·rw [decide_eq_false c4,cond_false];by_cases c5:a.FKind=5
     ·rw [decide_eq_true c5,cond_true];refine Pf.skip fun t _=>?_;have:=(Pf.app u (inputs_dst d a.FInputs t [])).id;rw [Option.bind_assoc] at this;exact this.imp fun h=>⟨fun h=>absurd h c12,fun _=>h⟩
     ·rw [decide_eq_false c5,cond_false];exact Pf.pure ⟨fun h=>absurd h c12,fun h=>absurd h c5⟩
  ·rcases Nat.lt_or_ge i j with c|c
   ·exact z3 j c
   ·obtain rfl:j=i:=by omega
    exact⟨z1,fun x hx=>by rw [h1] at hx; cases hx; exact z2⟩
theorem check_dst {d:TDoc}{b:Bool}{r:Sl Z6}(h:Z73_q d b=some r) (hr:r.l=[]):Dst TDef.FName d.FDefs.l/\∀t∈d.FDefs.l,PartD t:=by
 have h2:Pf (Z73_q d b) [] (∀j,0<=j->Gn TDef.FName d.FDefs.l j/\∀x,d.FDefs.l[j]?=some x->PartD x):=by
  unfold Z73_q;simp only [Ab.on];refine(Pf.bind (Q:=True) (check_pf d d.FDefs.l 0 Sl.nil rfl) fun u=>?_).imp And.left;refine Pf.id ?_;generalize (b&&(!(Z75_q d ([81,117,101,114,121]:Bs)).2))=c;cases c
  ·exact Pf.pure trivial
  ·exact(Pf.add _ _ _ _).id
 have h3:=(h2 r h).2 hr;refine⟨dst_of fun j=>(h3 j (Nat.zero_le j)).1,fun t ht=>?_⟩;obtain⟨j,hj,rfl⟩:=List.mem_iff_getElem.1 ht;exact(h3 j (Nat.zero_le j)).2 _ (List.getElem?_eq_getElem hj)
end Go.Proofs

namespace Go.Proofs
open Go Go.Ab
theorem condE {α:Type}{c:Bool}{a b:Option α}{z:α}(h:cond c a b=some z):(c=true/\a=some z)\/(c=false/\b=some z):=by cases c; exact .inr ⟨rfl,h⟩; exact .inl ⟨rfl,h⟩
theorem guardE {α β:Type}{c:Bool}{o:Option α}{d:α}{k:α->Option β}{z:β}(h:guardO c o d k=some z):(c=true/\∃v,o=some v/\k v=some z)\/(c=false/\k d=some z):=by
  cases c
  · exact .inr ⟨rfl,h⟩
  · cases ho:o with
    | none=>rw [ho] at h; cases h
    | some v=>rw [ho] at h; exact .inl ⟨rfl,v,rfl,h⟩
theorem defs34 (l:List Bs) (y:Bool) (h:Z60_q34 l=Sum.inr y):y=false:=by
  induction l with
  | nil=>cases h
  | cons a r ih =>
    rw [Z60_q34] at h;simp only [Ab.on] at h
    revert h
    cases (!Z37_q a) with
    | true=>intro h; exact(Sum.inr.inj h).symm
    | false=>exact ih
theorem docs_right (l:List TDef) (z:Unit ⊕ Bool) (h:Z58_q10 l=some z):(z=Sum.inl ()/\∀x∈l,Z60_q x=some true)\/z=Sum.inr false:=by
  induction l generalizing z with
  | nil=>rw [Z58_q10] at h; exact .inl ⟨(Option.some.inj h).symm,fun a ha=>by cases ha⟩
  | cons a r ih =>
    rw [Z58_q10] at h;simp only [Ab.on] at h;obtain⟨x,g,h⟩:=bindO_some h;cases x with
    | false=>simp at h; exact .inr h.symm
    | true =>
      simp only [Bool.not_true,cond_false] at h;rcases ih z h with ⟨h1,h2⟩|h1
      · exact .inl ⟨h1,fun y hy=>by rcases List.mem_cons.1 hy with rfl|hy; exact g; exact h2 y hy⟩
      · exact .inr h1
theorem doc_right {d:TDoc}(h:Z58_q d=some true):∀x∈d.FDefs.l,Z60_q x=some true:=by
  unfold Z58_q at h;rcases condE h with ⟨_,h⟩|⟨_,h⟩
  · cases h
  · obtain⟨z,g,h⟩:=bindO_some h
    rcases docs_right _ _ g with ⟨_,h1⟩|rfl
    · exact h1
    · cases h
theorem def_parts {t:TDef}(h:Z60_q t=some true):((t.FKind=1\/t.FKind=2)\/t.FFields.l=[])/\(t.FKind=5\/t.FInputs.l=[]):=by
  unfold Z60_q at h;simp only [Ab.on] at h;rcases guardE h with ⟨_,x5,_,h⟩|⟨_,h⟩<;>rcases condE h with ⟨_,h⟩|⟨_,h⟩;all_goals first
    | (cases h; done)
    | (cases e:Z60_q34 t.FImplements.l with
       | inr y=>rw [e] at h; have:=defs34 _ _ e; subst this; cases h
       | inl _ =>
         rw [e] at h;simp only at h;rcases condE h with ⟨k1,h⟩|⟨_,h⟩
         · obtain⟨x15,_,h⟩:=bindO_some h
           simp at h k1;exact⟨.inl (.inl k1),.inr h.2⟩
         · rcases condE h with ⟨k1,h⟩|⟨_,h⟩
           · rcases guardE h with ⟨_,x,_,h⟩|⟨_,h⟩
             · simp at h k1; exact⟨.inl (.inr k1),.inr h.2⟩
             · simp at h
           · rcases condE h with ⟨_,h⟩|⟨_,h⟩
             · rcases guardE h with ⟨_,x,_,h⟩|⟨_,h⟩
               · simp at h; exact⟨.inr h.1.1.2,.inr h.2⟩
               · simp at h
             · rcases condE h with ⟨_,h⟩|⟨_,h⟩
               · rcases guardE h with ⟨_,x,_,h⟩|⟨_,h⟩
                 · simp at h; exact⟨.inr h.1.1.2,.inr h.2⟩
                 · simp at h
               · rcases condE h with ⟨k1,h⟩|⟨_,h⟩
                 · rcases guardE h with ⟨_,x,ex,h⟩|⟨_,h⟩
                   · simp at h k1; exact⟨.inr h.1.1.1.2,.inl k1⟩
                   · simp at h
                 · cases h)
theorem rok {t:TRef}(h:t.sz<=1048576):ROk t:=by
  have h1:=t.sz_def;have h2:=TRef.wraps_le t;have h3:Bs.sz t.FName=t.FName.length+1:=rfl;exact⟨by omega,by omega⟩
theorem iok {x:Z9}(hw:x.wf) (h:x.sz<=1048576):IOk x:=by
  have h1:=x.sz_def;exact⟨rok (by omega),by omega,hw.2.2.2.1⟩
theorem fok {x:Z7}(hw:x.wf) (h:x.sz<=1048576):FOk x:=by
  have h1:=x.sz_def;exact⟨rok (by omega),fun y hy=>iok (hw.2.1.2.2 y hy) (by have:=Sl.mem_le (f:=Z9.sz) hy; omega)⟩
theorem tok {t:TDef}(hw:t.wf) (h:t.sz<=1048576):TOk t:=by
  have h1:=t.sz_def;have h2:=Sl.len_le (f:=Bs.sz) t.FImplements (fun x=>Bs.sz_pos x);have h3:=Sl.len_le (f:=Z10.sz) t.FMembers (fun x=>x.pos);exact⟨fun x hx=>fok (hw.2.2.2.2.1.2.2 x hx) (by have:=Sl.mem_le (f:=Z7.sz) hx; omega),fun x hx=>iok (hw.2.2.2.2.2.2.1.2.2 x hx) (by have:=Sl.mem_le (f:=Z9.sz) hx; omega),by omega,⟨hw.2.2.1.1,by omega⟩⟩
end Go.Proofs

namespace Go.Proofs
open Go Go.Ab
structure DocOk (d:TDoc):Prop where
 t:∀t∈d.FDefs.l,TOk t
 n:Dst TDef.FName d.FDefs.l
 e:∀t∈d.FDefs.l,DDst t
 w:dw d.FDefs.l<=600
 r:∀t∈d.FDefs.l,Z60_q t=some true
end Go.Proofs

namespace Go.Proofs
open Go Go.Ab
theorem inputs_right (l:List Z9) (z:Unit ⊕ Bool) (h:Z63_q10 l=some z):(z=Sum.inl ()/\∀x∈l,x.FHas=true->Z44_q x.FDefault=some true)\/z=Sum.inr false:=by
  induction l generalizing z with
  | nil=>rw [Z63_q10] at h; exact .inl ⟨(Option.some.inj h).symm,fun a ha=>by cases ha⟩
  | cons a r ih =>
    rw [Z63_q10] at h;simp only [Ab.on] at h;have step:∀(x27:Bool),(a.FHas=true->Z44_q a.FDefault=some x27)->∀x28:Bool,(bif ((a.FHas&&((!x27)||(!x28)))||((!a.FHas)&&(!(bif (!(a.FHas&&((!x27)||(!x28)))&&(!a.FHas)) then Z65_q a.FDefault else false)))) then(some (Sum.inr false)) else(Z63_q10 r))=some z ->
        (z=Sum.inl ()/\∀x∈a::r,x.FHas=true->Z44_q x.FDefault=some true)\/z=Sum.inr false:=by
      intro x27 e x28 h;rcases condE h with ⟨_,h⟩|⟨hc,h⟩
      · exact .inr (Option.some.inj h).symm
      · rcases ih z h with ⟨h1,h2⟩|h1
        · refine .inl ⟨h1,fun x hx hh=>?_⟩
          rcases List.mem_cons.1 hx with rfl|hx
          · have:=e hh
            rw [hh] at hc;cases x27 with
            | true=>exact this
            | false=>simp at hc
          · exact h2 x hx hh
        · exact .inr h1
    rcases guardE h with ⟨_,x22,_,h⟩|⟨_,h⟩<;>rcases guardE h with ⟨_,x23,_,h⟩|⟨_,h⟩<;>rcases condE h with ⟨_,h⟩|⟨_,h⟩;all_goals first
      | exact .inr (Option.some.inj h).symm
      | (rcases guardE h with ⟨_,x27,e27,h⟩|⟨e27,h⟩
         · rcases guardE h with ⟨_,x28,_,h⟩|⟨_,h⟩
           · exact step x27 (fun _=>e27) x28 h
           · exact step x27 (fun _=>e27) false h
         · rcases guardE h with ⟨_,x28,_,h⟩|⟨_,h⟩
           · exact step false (fun hh=>by rw [hh] at e27; cases e27) x28 h
           · exact step false (fun hh=>by rw [hh] at e27; cases e27) false h)
theorem inputsRight_w {s:Sl Z9}(h:Z63_q s=some true):∀x∈s.l,x.FHas=true->Z44_q x.FDefault=some true:=by
  unfold Z63_q at h;rcases condE h with ⟨_,h⟩|⟨_,h⟩
  · cases h
  · obtain⟨z,g,h⟩:=bindO_some h
    rcases inputs_right _ _ g with ⟨_,h1⟩|rfl
    · exact h1
    · cases h
def RtI (x:Z9):Prop:=x.FHas=true->Z44_q x.FDefault=some true
theorem guardT {α β:Type}{o:Option α}{d:α}{k:α->Option β}{z:β}(h:guardO true o d k=some z):∃v,o=some v/\k v=some z:=by
  rcases guardE h with ⟨_,h⟩|⟨hc,_⟩
  · exact h
  · cases hc
theorem fields_right (l:List Z7) (z:Unit ⊕ Bool) (h:Z62_q10 l=some z):(z=Sum.inl ()/\∀x∈l,Z63_q x.FArgs=some true)\/z=Sum.inr false:=by
  induction l generalizing z with
  | nil=>rw [Z62_q10] at h; exact .inl ⟨(Option.some.inj h).symm,fun a ha=>by cases ha⟩
  | cons a r ih =>
    rw [Z62_q10] at h;simp only [Ab.on] at h;cases e:Z37_q a.FName with
    | false=>simp [e,guardO] at h; exact .inr h.symm
    | true =>
      simp only [e,Bool.not_true,Bool.not_false,cond_true,Bool.false_or] at h;obtain⟨x21,e21,h⟩:=guardT h;cases x21 with
      | false=>simp [guardO] at h; exact .inr h.symm
      | true =>
        simp only [Bool.not_true,Bool.not_false,cond_true,Bool.false_or] at h;obtain⟨x23,_,h⟩:=guardT h;cases x23 with
        | false=>simp [guardO] at h; exact .inr h.symm
        | true =>
          simp only [Bool.not_true,Bool.not_false,cond_true,Bool.false_or] at h;obtain⟨x25,_,h⟩:=guardT h;cases x25 with
          | false=>simp at h; exact .inr h.symm
          | true =>
            simp only [Bool.not_true,cond_false] at h;rcases ih z h with ⟨h1,h2⟩|h1
            · exact .inl ⟨h1,fun y hy=>by rcases List.mem_cons.1 hy with rfl|hy; exact e21; exact h2 y hy⟩
            · exact .inr h1
theorem inputsRight_n {s:Sl Z9}(h:Z63_q s=some true):s.l.length<=16:=by
  unfold Z63_q at h;rcases condE h with ⟨_,h⟩|⟨h1,_⟩
  · cases h
  · rw [decide_eq_false_iff_not] at h1; omega
theorem fieldsRight_w {s:Sl Z7}(h:Z62_q s=some true):s.l.length<=64/\∀x∈s.l,Z63_q x.FArgs=some true:=by
  unfold Z62_q at h;rcases condE h with ⟨_,h⟩|⟨h1,h⟩
  · cases h
  · obtain⟨z,g,h⟩:=bindO_some h
    rw [Bool.or_eq_false_iff,decide_eq_false_iff_not,decide_eq_false_iff_not] at h1;rcases fields_right _ _ g with ⟨_,h2⟩|rfl
    · exact⟨by omega,h2⟩
    · cases h
theorem membersRight_n {s:Sl Z10}{b:Bool}(h:Z64_q s b=some true):s.l.length<=64:=by
  unfold Z64_q at h;rcases condE h with ⟨_,h⟩|⟨h1,_⟩
  · cases h
  · rw [Bool.or_eq_false_iff,decide_eq_false_iff_not,decide_eq_false_iff_not] at h1; omega
structure Rt (t:TDef):Prop where
  f:t.FFields.l.length<=64
  a:∀x∈t.FFields.l,Z63_q x.FArgs=some true
  i:t.FInputs.l.length<=16
  d:∀y∈t.FInputs.l,RtI y
  m:t.FMembers.l.length<=64
  p:t.FImplements.l.length<=64
  q:t.FInputs.l=[]\/Z63_q t.FInputs=some true
theorem def_rt {t:TDef}(h:Z60_q t=some true):Rt t:=by
  have mk:t.FImplements.l.length<=64->(t.FFields.l=[]\/Z62_q t.FFields=some true)->(t.FInputs.l=[]\/Z63_q t.FInputs=some true)->t.FMembers.l.length<=64->Rt t:=fun h1 h2 h3 h4=>by
    refine⟨?_, ?_, ?_, ?_,h4,h1,h3⟩
    · rcases h2 with e|e
      · rw [e]; exact Nat.zero_le _
      · exact(fieldsRight_w e).1
    · rcases h2 with e|e
      · rw [e]; intro x hx; cases hx
      · exact(fieldsRight_w e).2
    · rcases h3 with e|e
      · rw [e]; exact Nat.zero_le _
      · exact inputsRight_n e
    · rcases h3 with e|e
      · rw [e]; intro x hx; cases hx
      · exact inputsRight_w e
  have z:∀{α:Type}{l:List α},l=[]->l.length<=64:=fun e=>by rw [e]; exact Nat.zero_le _
  unfold Z60_q at h;simp only [Ab.on] at h;rcases guardE h with ⟨_,x5,_,h⟩|⟨_,h⟩<;>rcases condE h with ⟨_,h⟩|⟨hp,h⟩;all_goals first
    | (cases h; done)
    | (have hq:t.FImplements.l.length<=64:=by
         rw [Bool.or_eq_false_iff,decide_eq_false_iff_not] at hp; omega
       cases e:Z60_q34 t.FImplements.l with
       | inr y=>rw [e] at h; have:=defs34 _ _ e; subst this; cases h
       | inl _ =>
         rw [e] at h;simp only at h;rcases condE h with ⟨k1,h⟩|⟨_,h⟩
         · obtain⟨x15,ex,h⟩:=bindO_some h
           simp at h k1;rw [h.1.1] at ex;exact mk hq (.inr ex) (.inl h.2) (z h.1.2)
         · rcases condE h with ⟨k1,h⟩|⟨_,h⟩
           · rcases guardE h with ⟨_,x,ex,h⟩|⟨_,h⟩
             · simp at h k1; rw [h.1.1.2] at ex; exact mk hq (.inr ex) (.inl h.2) (z h.1.2)
             · simp at h
           · rcases condE h with ⟨_,h⟩|⟨_,h⟩
             · rcases guardE h with ⟨_,x,ex,h⟩|⟨_,h⟩
               · simp at h; rw [h.1.2] at ex; exact mk hq (.inl h.1.1.2) (.inl h.2) (membersRight_n ex)
               · simp at h
             · rcases condE h with ⟨_,h⟩|⟨_,h⟩
               · rcases guardE h with ⟨_,x,ex,h⟩|⟨_,h⟩
                 · simp at h; rw [h.1.2] at ex; exact mk hq (.inl h.1.1.2) (.inl h.2) (membersRight_n ex)
                 · simp at h
               · rcases condE h with ⟨k1,h⟩|⟨_,h⟩
                 · rcases guardE h with ⟨_,x,ex,h⟩|⟨_,h⟩
                   · simp at h k1; rw [h.2] at ex; exact mk hq (.inl h.1.1.1.2) (.inr ex) (z h.1.1.2)
                   · simp at h
                 · cases h)
theorem def_small {t:TDef}(h:Z60_q t=some true):Sm t/\t.FImplements.l.length<=600:=by
  have r:=def_rt h;have:=r.f; have:=r.m; have:=r.p; have:=r.i;exact⟨⟨by omega,by omega,by omega,by omega,fun f hf=>by have:=inputsRight_n (r.a f hf); omega⟩,by omega⟩
end Go.Proofs

namespace Go.Proofs
open Go Go.Ab
theorem u8_small {n:Nat}(h:n<256):IntKind.wrap .u8 (n:Int)=(n:Int):=by
 have:(n:Int) % 256=n:=by omega
 simp [IntKind.wrap,IntKind.bits,IntKind.signed]; omega
theorem bytes_one (k:Nat):bytesC (⟨false,[((48+k:Nat):Int)]⟩:Sl Int)=[UInt8.ofNat (48+k)]:=by
 show [UInt8.ofNat ((48+k:Nat):Int).toNat]=_;rw [Int.toNat_natCast]
theorem digits_eq:∀(f u:Nat),u<10 ^ f->u<=9223372036854775808->f<=30->∀m,f+1<=m->Z40_qn m (-(u:Int))=some (Lib.decDigits u):=by
 intro f;induction f with
 | zero =>
  intro u hu hb hf m hm;have:u=0:=by simpa using hu
  subst this;obtain⟨m,rfl⟩:∃k,m=k+1:=⟨m-1,by omega⟩;rw [Lib.decDigits]; rfl
 | succ f ih =>
  intro u hu hb hf m hm;obtain⟨m,rfl⟩:∃k,m=k+1:=⟨m-1,by omega⟩;have h1:Int.tmod (-(u:Int)) 10 = -((u % 10:Nat):Int):=by rw [Int.neg_tmod]; rfl
  have h2:Int.tdiv (-(u:Int)) 10 = -((u / 10:Nat):Int):=by rw [Int.neg_tdiv]; rfl
  rw [Z40_qn,h1,h2,subC_ok (by omega),Option.bind_some];have h3:(48:Int) - -((u % 10:Nat):Int)=((48+u % 10:Nat):Int):=by omega
  rw [h3,u8_small (by omega),Lib.decDigits];by_cases hs:u<10
  ·rw [dif_pos hs,show decide ((-10:Int) < -(u:Int))=true from decide_eq_true (by omega),cond_true,Nat.mod_eq_of_lt hs,bytes_one]
  ·rw [dif_neg hs,show decide ((-10:Int) < -(u:Int))=false from decide_eq_false (by omega),cond_false,IntWalk.i64_in _ (by omega),ih (u / 10) (by rw [Nat.pow_succ] at hu; omega) (by omega) (by omega) m (by omega),Option.bind_some];have hl:=dlen20 (u:=u / 10) (by omega);rw [bytes_one,catC_ok (by simp; omega),Option.bind_some]
theorem decimal_eq {n:Int}(h0 : -9223372036854775808<=n) (h1:n<=9223372036854775807):Z36_q n=some (Lib.itoa n):=by
 unfold Z36_q Z40_q;have hF:∀u:Nat,u<=9223372036854775808->Z40_qn F0 (-(u:Int))=some (Lib.decDigits u):=fun u hu=>digits_eq 20 u (by omega) hu (by omega) F0 (by rw [F0_eq]; omega);by_cases hn:n<0
 ·obtain⟨u,rfl⟩:∃u:Nat,n = -(u:Int):=⟨n.natAbs,by omega⟩;rw [show decide (-(u:Int)<0)=true from decide_eq_true hn,cond_true,hF u (by omega),Option.bind_some];have hl:=dlen20 (u:=u) (by omega);rw [catC_ok (by simp; omega),Option.bind_some];unfold Lib.itoa; rw [if_pos hn,show (-(u:Int)).natAbs=u by omega]; rfl
 ·obtain⟨u,rfl⟩:∃u:Nat,n=(u:Int):=⟨n.natAbs,by omega⟩;rw [show decide ((u:Int)<0)=false from decide_eq_false hn,cond_false,IntWalk.i64_in _ (by omega),show (0:Int)-(u:Int) = -(u:Int) by omega,hF u (by omega),Option.bind_some];unfold Lib.itoa; rw [if_neg hn,Int.toNat_natCast]
end Go.Proofs

namespace Go.Proofs
open Go Go.Ab
def bB:Nat:=549755813888
def Wv:Nat->Z12->Prop
 | 0,_=>False
 | n+1,v=>(-9223372036854775808<=v.FInt/\v.FInt<=9223372036854775807)/\(v.FKeys.nl=true->v.FKeys.l=[])/\v.FKeys.l.length<=bB/\v.FItems.l.length<=bB/\∀x∈v.FItems.l,Wv n x
theorem appC80 {α:Type}{s r:Sl α}(h:s.l.length+r.l.length<=1099511627776):appC 80 s r=some ⟨s.nl&&r.l.isEmpty,s.l++r.l⟩:=by
 unfold appC; rw [if_pos];have:(s.l.length+r.l.length)*80<=1099511627776*80:=Nat.mul_le_mul_right _ h;unfold maxN; omega
theorem Wv.of:∀(n:Nat) (v:Z12),v.sz<=n->v.sz<=1048576->v.wf->Wv n v
 | 0,v,h,_,_=>by have:=Z12.pos v; omega
 | n+1,v,h,h2,hw=>by
  have h1:=v.sz_def;have h3:=Sl.len_le (f:=Z12.sz) v.FItems (fun x=>Z12.pos x);have h4:=Sl.len_le (f:=Bs.sz) v.FKeys (fun x=>Bs.sz_pos x);refine⟨?_, ?_, ?_, ?_,fun x hx=>?_⟩
  ·have:=Z12.FInt_wf hw; unfold i64 at this; omega
  ·exact(Z12.FKeys_wf hw).1
  ·unfold bB; omega
  ·unfold bB; omega
  ·have h5:=Sl.mem_le (f:=Z12.sz) hx;exact Wv.of n x (by omega) (by omega) ((Z12.FItems_wf hw).2.2 x hx)
def VW (v:Z12):Prop:=∃m,m<=1048576/\Wv m v
theorem VW.of {v:Z12}(h:v.sz<=1048576) (hw:v.wf):VW v:=⟨v.sz,h,Wv.of _ v (Nat.le_refl _) h hw⟩
theorem VW.item {v x:Z12}(h:VW v) (hx:x∈v.FItems.l):VW x:=by
 obtain⟨m,hm,h⟩:=h;cases m with
 | zero=>exact h.elim
 | succ m=>exact⟨m,by omega,h.2.2.2.2 x hx⟩
theorem VW.int {v:Z12}(h:VW v) : -9223372036854775808<=v.FInt/\v.FInt<=9223372036854775807:=by
 obtain⟨m,hm,h⟩:=h;cases m with
 | zero=>exact h.elim
 | succ m=>exact h.1
theorem VW.len {v:Z12}(h:VW v):v.FItems.l.length<=bB:=by
 obtain⟨m,hm,h⟩:=h;cases m with
 | zero=>exact h.elim
 | succ m=>exact h.2.2.2.1
def nilV:Z12:=Z12.mk (0:Int) (0:Int) ([]:Bs) true ([]) (Sl.nil:Sl Bs)
theorem VW.nil:VW nilV:=⟨1,by decide,⟨by decide,by decide⟩,fun _=>rfl,Nat.zero_le _,Nat.zero_le _,fun _ h=>(by cases h)⟩
theorem rcopy_tot:∀(n:Nat){v:Z12},Wv n v->∀m,2*n<=m->∃r,r02_Copy_qn m v=some r/\Wv n r
 | 0,_,h,_,_=>h.elim
 | n+1,v,⟨h2,h5,h6,h7,h9⟩,m,hm=>by
  obtain⟨m1,rfl⟩:∃m1,m=m1+1+1:=⟨m-2,by omega⟩;have hl:∀(l:List Z12) (s:Sl Z12),(∀x∈l,Wv n x)->(∀x∈s.l,Wv n x)->s.l.length+l.length<=bB->∃s':Sl Z12,Z46_q7 (r02_Copy_qn m1) l s=some s'/\(∀x∈s'.l,Wv n x)/\s'.l.length=s.l.length+l.length:=by
   intro l;induction l with
   | nil=>intro s _ hs _; exact⟨s,rfl,hs,rfl⟩
   | cons a t ih =>
    intro s hl hs hb;obtain⟨r,hr,hr'⟩:=rcopy_tot n (hl a (.head _)) m1 (by omega);rw [Z46_q7];simp only [Ab.on,hr,Option.bind_some];simp only [List.length_cons] at hb;rw [appC80 (by unfold bB at hb; simp; omega),Option.bind_some];obtain⟨s',e1,e2,e3⟩:=ih ⟨s.nl&&[r].isEmpty,s.l++[r]⟩ (fun x hx=>hl x (.tail _ hx)) (fun x hx=>by
     rcases List.mem_append.1 hx with hx|hx
     ·exact hs x hx
     ·rw [List.mem_singleton.1 hx]; exact hr') (by simp; omega)
    exact⟨s',e1,e2,by rw [e3]; simp; omega⟩
  obtain⟨s',e1,e2,e0⟩:=hl v.FItems.l Sl.nil h9 (fun _ h=>by cases h) (by simpa [Sl.nil] using h7);rw [r02_Copy_qn,Z46_qn,e1,Option.bind_some];simp only [Ab.on,Option.bind_some];rw [appC_ok (by decide) (by unfold bB at h6; simp; omega),Option.bind_some];refine⟨_,rfl,⟨h2,fun e=>Bool.noConfusion (show false=true from e), ?_, ?_,e2⟩⟩
  ·show ([]++v.FKeys.l).length<=_; rw [List.nil_append]; exact h6
  ·show s'.l.length<=_; rw [e0]; simpa [Sl.nil] using h7
theorem rcopy_ok {v:Z12}(h:VW v):∃r,r02_Copy_q v=some r/\VW r:=by
 obtain⟨m,hm,h⟩:=h;obtain⟨r,e,w⟩:=rcopy_tot m h F0 (by rw [F0_eq]; omega);exact⟨r,e,m,hm,w⟩
theorem rget_ok {v:Z12}(h:VW v) (s:Bs):∃x b,Z43_q v s=some (x,b)/\VW x:=by
 have loop:∀(l:List Bs) (i:Nat),∃o,Z43_q10 v s l i=some o/\(match o with|Sum.inl _=>True|Sum.inr p=>VW p.1):=by
  intro l;induction l with
  | nil=>intro i; exact⟨_,rfl,trivial⟩
  | cons a r ih =>
   intro i;rw [Z43_q10];simp only [Ab.on];cases a==s
   ·exact ih (i+1)
   ·rw [cond_true];by_cases hi:v.FItems.l.length<=i
    ·rw [decide_eq_true (by omega:((v.FItems.l.length:Nat):Int)<=((i:Nat):Int)),cond_true];exact⟨_,rfl,VW.nil⟩
    ·have hi:i<v.FItems.l.length:=by omega
     obtain⟨r,e,w⟩:=rcopy_ok (h.item (List.getElem_mem hi));rw [decide_eq_false (by omega:¬((v.FItems.l.length:Nat):Int)<=((i:Nat):Int)),cond_false,List.getElem?_eq_getElem hi,Option.bind_some,e,Option.bind_some];exact⟨_,rfl,w⟩
 unfold Z43_q;cases (!decide (v.FKind=(6:Int)))
 ·obtain⟨o,e,w⟩:=loop v.FKeys.l 0;rw [cond_false,e,Option.bind_some];cases o with
  | inl u=>exact⟨_,_,rfl,VW.nil⟩
  | inr p=>exact⟨p.1,p.2,rfl,w⟩
 ·exact⟨_,_,rfl,VW.nil⟩
theorem rget_nil (s:Bs):Z43_q nilV s=some (nilV,false):=rfl
theorem earlier_loop (l:Sl Z9){i:Nat}(hi:i<l.l.length):∀(n k:Nat),k<=i->i-k<n->i<=1048576->∃b,Z106_l5 l (i:Int) n (k:Int)=some b
 | 0,_,_,h,_=>by omega
 | n+1,k,h1,h2,h3=>by
  rw [Z106_l5];by_cases hk:k<i
  ·have x1:idxC l.l (k:Int)=some l.l[k]:=by unfold idxC; rw [if_pos (by omega),Int.toNat_natCast,List.getElem?_eq_getElem (by omega)]
   have x2:idxC l.l (i:Int)=some l.l[i]:=by unfold idxC; rw [if_pos (by omega),Int.toNat_natCast,List.getElem?_eq_getElem hi]
   have ha:addC (k:Int) 1=some ((k+1:Nat):Int):=by rw [addC_ok (by omega)]; rfl
   rw [decide_eq_true (by omega:((k:Nat):Int)<((i:Nat):Int)),cond_true,x1,Option.bind_some,x2,Option.bind_some];cases l.l[k].FName==l.l[i].FName
   ·rw [cond_false,ha,Option.bind_some]; exact earlier_loop l hi n (k+1) (by omega) (by omega) h3
   ·exact⟨true,rfl⟩
  ·rw [decide_eq_false (by omega:¬((k:Nat):Int)<((i:Nat):Int)),cond_false];unfold Z106_j2;exact⟨_,rfl⟩
theorem earlier_ok (l:Sl Z9){i:Nat}(hi:i<l.l.length) (h:l.l.length<=1048576):∃b,Z106_q l (i:Int)=some b:=by
 unfold Z106_q Z106;exact earlier_loop l hi F0 0 (Nat.zero_le _) (by rw [F0_eq]; omega) (by omega)
def Wk (d:TDoc) (c:Z4):Prop:=c.Fd=d/\c.Fvars=nilV/\c.Flit=true/\0<=c.Fcount/\c.Fcount<=4097/\(c.Ferr=0->c.Fcount<=4096)
theorem fail_wk {d:TDoc}{c:Z4}(h:Wk d c){e:Int}(he:e≠0):Wk d (Z108_q c e):=by
 obtain⟨a,b,l,c0,c1,c2⟩:=h;unfold Z108_q;cases decide (c.Ferr=0)
 ·exact⟨a,b,l,c0,c1,c2⟩
 ·exact⟨a,b,l,c0,c1,fun h=>absurd h he⟩
theorem node_wk {d:TDoc}{c:Z4}(h:Wk d c) (h0:c.Ferr=0) (L:Int):∃c',Z110_q c L=some c'/\Wk d c'/\(c'.Ferr=0->L<=24):=by
 have hb:∀c1:Z4,c1.Fd=d->c1.Fvars=nilV->c1.Flit=true->0<=c1.Fcount->c1.Fcount<=4096->(c1.Ferr=0->L<=24) ->
   ∃c',((addC c1.Fcount (1:Int)).bind fun x4=>bif (decide ((4096:Int)<x4)) then(on (Z108_q (Z4.mk c1.Fd c1.Fvars c1.Flit x4 c1.Ferr) (4:Int)) fun x7=>some x7) else(some (Z4.mk c1.Fd c1.Fvars c1.Flit x4 c1.Ferr)))=some c'/\Wk d c'/\(c'.Ferr=0->L<=24):=by
  intro c1 a1 a2 a3 a4 a5 a6;rw [addC_ok (by omega),Option.bind_some];by_cases h4:4096<c1.Fcount+1
  ·rw [decide_eq_true h4,cond_true];simp only [Ab.on];unfold Z108_q;simp only [];by_cases e0:c1.Ferr=0
   ·rw [decide_eq_true e0];exact⟨_,rfl,⟨a1,a2,a3,by show 0<=c1.Fcount+1; omega,by show c1.Fcount+1<=4097; omega,fun h=>(by cases h)⟩,fun h=>(by cases h)⟩
   ·rw [decide_eq_false e0];exact⟨_,rfl,⟨a1,a2,a3,by show 0<=c1.Fcount+1; omega,by show c1.Fcount+1<=4097; omega,fun h=>absurd h e0⟩,a6⟩
  ·rw [decide_eq_false h4];exact⟨_,rfl,⟨a1,a2,a3,by show 0<=c1.Fcount+1; omega,by show c1.Fcount+1<=4097; omega,fun _=>by show c1.Fcount+1<=4096; omega⟩,a6⟩
 obtain⟨a,b,l,c0,c1,c2⟩:=h;unfold Z110_q;by_cases hl:24<L
 ·rw [decide_eq_true hl];simp only [cond_true,Ab.on];refine hb _ ?_ ?_ ?_ ?_ ?_ ?_<;>unfold Z108_q<;>rw [decide_eq_true h0]
  ·exact a
  ·exact b
  ·exact l
  ·exact c0
  ·exact c2 h0
  ·exact fun h=>(by cases h)
 ·rw [decide_eq_false hl];simp only [cond_false,Ab.on];exact hb c a b l c0 (c2 h0) fun _=>by omega
def CoT (d:TDoc) (n:Nat) (L:Int):Prop:=∀(c:Z4) (t:TRef) (v:Z12),Wk d c->c.Ferr=0->VW v->t.FWraps.l.length<=1048576->∃x c',r12_work_coerce_qn n c t v L=some (x,c')/\Wk d c'
theorem rlist_tot {d:TDoc}{n:Nat}{L:Int}(hL:0<=L/\L<=100) (hc:CoT d n (L+1)){c:Z4}{t:TRef}{v:Z12}(hk:Wk d c) (hv:VW v) (ht:t.FWraps.l.length<=1048576):∃x c',r12_work_list_qn (n+1) c t v L=some (x,c')/\Wk d c':=by
 have loop:∀(l:List Z12) (c:Z4) (o:Z12),Wk d c->(∀x∈l,VW x)->o.FItems.l.length+l.length<=2*bB->∃c' o',r12_work_list_q12 t L (r12_work_coerce_qn n) l c o=some (c',o')/\Wk d c':=by
  intro l;induction l with
  | nil=>intro c o hk _ _; exact⟨c,o,rfl,hk⟩
  | cons a r ih =>
   intro c o hk hx hb;simp only [List.length_cons] at hb;rw [r12_work_list_q12];by_cases he:c.Ferr=0
   ·rw [decide_eq_true he,cond_true];simp only [Ab.on];obtain⟨x,c',e,w⟩:=hc c t a hk he (hx a (.head _)) ht;rw [addC_ok (by omega),Option.bind_some,e,Option.bind_some,appC80 (by unfold bB at hb; simp only [List.length_cons,List.length_nil]; omega),Option.bind_some];refine ih c' _ w (fun x hx'=>hx x (.tail _ hx')) ?_;show (o.FItems.l++[x]).length+r.length<=_;rw [List.length_append,List.length_singleton]; omega
   ·rw [decide_eq_false he]; exact⟨c,o,rfl,hk⟩
 rw [r12_work_list_qn];simp only [Ab.on];have fin:∀l:Sl Z12,(∀x∈l.l,VW x)->l.l.length<=bB->∃x c',(Option.bind (r12_work_list_q12 t L (r12_work_coerce_qn n) l.l c (Z12.mk (5:Int) (0:Int) ([]:Bs) true ([]) (Sl.nil:Sl Bs))) fun z12=>some (z12.2,z12.1))=some (x,c')/\Wk d c':=by
  intro l h1 h2;obtain⟨c',o',e,w⟩:=loop l.l c (Z12.mk (5:Int) (0:Int) ([]:Bs) true ([]) (Sl.nil:Sl Bs)) hk h1 (by show 0+l.l.length<=_; unfold bB at h2 ⊢; omega);rw [e]; exact⟨_,_,rfl,w⟩
 cases decide (v.FKind=(5:Int))
 ·exact fin ⟨false,[v]⟩ (fun x hx=>by rw [List.mem_singleton.1 hx]; exact hv) (by unfold bB; simp)
 ·exact fin v.FItems (fun x hx=>hv.item hx) hv.len
def InsOk (d:TDoc):Prop:=∀t∈d.FDefs.l,t.FInputs.l.length<=1048576/\∀x∈t.FInputs.l,VW x.FDefault/\x.FType.FWraps.l.length<=1048576
theorem q58_wk {d:TDoc}(t:TDef):∀(l:List Bs) (c:Z4),Wk d c->Wk d (r12_work_object_q58 t l c)
 | [],c,h=>by rw [r12_work_object_q58]; exact h
 | a::r,c,h=>by
  rw [r12_work_object_q58];simp only [Ab.on];refine q58_wk t r _ ?_;cases (Z76_q t.FInputs a).2
  ·exact fail_wk h (by decide)
  ·exact h
theorem robject_tot {d:TDoc}{n:Nat}{L:Int}(hL:0<=L/\L<=100) (hc:CoT d (n+1) (L+1)) (hp:CoT d n (L+1)){c:Z4}{t:TDef}{v:Z12}(hk:Wk d c) (hv:VW v) (hl:t.FInputs.l.length<=1048576) (hi:∀x∈t.FInputs.l,VW x.FDefault/\x.FType.FWraps.l.length<=1048576):∃x c',r12_work_object_qn (n+2) c t v L=some (x,c')/\Wk d c':=by
 have plainT:∀(c:Z4) (t:TRef) (v:Z12),Wk d c->c.Ferr=0->VW v->t.FWraps.l.length<=1048576->∃x c',Z111_qn (n+1) c t v (L+1)=some (x,c')/\Wk d c':=by
  intro c t v hk he hv ht;obtain⟨x,c',e,w⟩:=hp (Z4.mk c.Fd nilV true c.Fcount c.Ferr) t v ⟨hk.1,rfl,rfl,hk.2.2.2.1,hk.2.2.2.2.1,hk.2.2.2.2.2⟩ he hv ht;rw [Z111_qn];have e2:r12_work_coerce_qn n (Z4.mk c.Fd (Z12.mk (0:Int) (0:Int) ([]:Bs) true ([]) (Sl.nil:Sl Bs)) true c.Fcount c.Ferr) t v (L+1)=some (x,c'):=e;rw [e2];exact⟨_,_,rfl,⟨w.1,hk.2.1,hk.2.2.1,w.2.2.2.1,w.2.2.2.2.1,w.2.2.2.2.2⟩⟩
 have loop:∀(l:List Z9) (i:Nat) (c:Z4) (o:Z12),t.FInputs.l.drop i=l->Wk d c->o.FItems.l.length+l.length<=2097152->o.FKeys.l.length+l.length<=2097152 ->
   ∃c' o',r12_work_object_q18 t v L (r12_work_coerce_qn (n+1)) (Z111_qn (n+1)) l i c o=some (c',o')/\Wk d c':=by
  intro l;induction l with
  | nil=>intro i c o _ hk _ _; exact⟨c,o,rfl,hk⟩
  | cons a r ih =>
   intro i c o hd hk hb hb2;obtain⟨h1,h2⟩:=drop_hd hd;have hilt:i<t.FInputs.l.length:=(List.getElem?_eq_some_iff.1 h1).1;have hia:=hi a (List.mem_of_getElem? h1);simp only [List.length_cons] at hb hb2;rw [r12_work_object_q18];by_cases he:c.Ferr=0
   ·rw [decide_eq_true he,cond_true];simp only [Ab.on];obtain⟨b,eb⟩:=earlier_ok t.FInputs hilt hl;rw [eb,Option.bind_some];have nxt:∀(o':Option (Z4×Z12)),(∃c' z,o'=some (c',z)/\Wk d c'/\z.FItems.l.length+r.length<=2097152/\z.FKeys.l.length+r.length<=2097152) ->
      ∃c' z',(Option.bind o' fun z26=>r12_work_object_q18 t v L (r12_work_coerce_qn (n+1)) (Z111_qn (n+1)) r (i+1) z26.1 z26.2)=some (c',z')/\Wk d c':=by
     rintro _ ⟨c',z,rfl,w,w1,w2⟩;rw [Option.bind_some];exact ih (i+1) c' z h2 w w1 w2
    have same:∃c' z,(some (c,o):Option (Z4×Z12))=some (c',z)/\Wk d c'/\z.FItems.l.length+r.length<=2097152/\z.FKeys.l.length+r.length<=2097152:=⟨c,o,rfl,hk,by omega,by omega⟩;have add:∀(c':Z4) (x:Z12),Wk d c'->∃c2 z,((appC 16 o.FKeys (⟨false,[a.FName]⟩:Sl Bs)).bind fun x42=>(appC 80 o.FItems (⟨false,[x]⟩:Sl Z12)).bind fun x43=>some (c',(Z12.mk o.FKind o.FInt o.FText x43.nl x43.l x42)))=some (c2,z)/\Wk d c2/\z.FItems.l.length+r.length<=2097152/\z.FKeys.l.length+r.length<=2097152:=by
     intro c' x w;rw [appC_ok (by decide) (by simp only [List.length_cons,List.length_nil]; omega),Option.bind_some,appC80 (by simp only [List.length_cons,List.length_nil]; omega),Option.bind_some];refine⟨_,_,rfl,w, ?_, ?_⟩
     ·show (o.FItems.l++[x]).length+r.length<=_; rw [List.length_append,List.length_singleton]; omega
     ·show (o.FKeys.l++[a.FName]).length+r.length<=_; rw [List.length_append,List.length_singleton]; omega
    cases b
    ·rw [cond_false];obtain⟨y,g,eg,wg⟩:=rget_ok hv a.FName;rw [eg,Option.bind_some];refine nxt _ ?_;have go:∀m:Bool,∃c' z,(bif (g&&(!m)) then((addC L (1:Int)).bind fun x47=>(r12_work_coerce_qn (n+1) c a.FType y x47).bind fun x48=>(appC 16 o.FKeys (⟨false,[a.FName]⟩:Sl Bs)).bind fun x42=>(appC 80 o.FItems (⟨false,[x48.1]⟩:Sl Z12)).bind fun x43=>some (x48.2,(Z12.mk o.FKind o.FInt o.FText x43.nl x43.l x42))) else(bif a.FHas then((addC L (1:Int)).bind fun x51=>(Z111_qn (n+1) c a.FType a.FDefault x51).bind fun x52=>(appC 16 o.FKeys (⟨false,[a.FName]⟩:Sl Bs)).bind fun x42=>(appC 80 o.FItems (⟨false,[x52.1]⟩:Sl Z12)).bind fun x43=>some (x52.2,(Z12.mk o.FKind o.FInt o.FText x43.nl x43.l x42))) else(bif Z52_q a.FType then((appC 16 o.FKeys (⟨false,[a.FName]⟩:Sl Bs)).bind fun x42=>(appC 80 o.FItems (⟨false,[Z12.zero]⟩:Sl Z12)).bind fun x43=>some (Z108_q c (22:Int),(Z12.mk o.FKind o.FInt o.FText x43.nl x43.l x42))) else(some (c,o)))))=some (c',z)/\Wk d c'/\z.FItems.l.length+r.length<=2097152/\z.FKeys.l.length+r.length<=2097152:=by
      intro m;cases (g&&!m)
      ·rw [cond_false];cases a.FHas
       ·rw [cond_false];cases Z52_q a.FType
        ·exact same
        ·exact add _ _ (fail_wk hk (by decide))
       ·obtain⟨x,c',e,w⟩:=plainT c a.FType a.FDefault hk he hia.1 hia.2;rw [cond_true,addC_ok (by omega),Option.bind_some,e,Option.bind_some];exact add c' x w
      ·obtain⟨x,c',e,w⟩:=hc c a.FType y hk he wg hia.2;rw [cond_true,addC_ok (by omega),Option.bind_some,e,Option.bind_some];exact add c' x w
     have ms:∃m,Z109_q c y=some m:=by
      unfold Z109_q;cases ((!c.Flit)||(!decide (y.FKind=(7:Int))))
      ·rw [cond_false,hk.2.1,rget_nil]; exact⟨_,rfl⟩
      ·exact⟨_,rfl⟩
     obtain⟨m,em⟩:=ms;rw [em];cases g
     ·exact go false
     ·exact go m
    ·exact nxt _ same
   ·rw [decide_eq_false he]; exact⟨c,o,rfl,hk⟩
 rw [r12_work_object_qn];cases (!decide (v.FKind=(6:Int)))
 ·rw [cond_false];simp only [Ab.on];obtain⟨c',o',e,w⟩:=loop t.FInputs.l 0 (r12_work_object_q58 t v.FKeys.l c) (Z12.mk (6:Int) (0:Int) ([]:Bs) true ([]) (Sl.nil:Sl Bs)) rfl (q58_wk t _ c hk) (by show 0+t.FInputs.l.length<=_; omega) (by show 0+t.FInputs.l.length<=_; omega);rw [e]; exact⟨_,_,rfl,w⟩
 ·exact⟨_,_,rfl,fail_wk hk (by decide)⟩
theorem rscalar_tot {d:TDoc}{c:Z4}(hk:Wk d c) (s:Bs){v:Z12}(hv:VW v):∃x c',Z113_q c s v=some (x,c')/\Wk d c':=by
 unfold Z113_q;generalize (((((s==([73,110,116]:Bs)))&&(decide (v.FKind=(2:Int))))&&(decide ((-2147483648:Int)<=v.FInt)))&&(decide (v.FInt<(2147483648:Int))))=b1;cases b1
 ·rw [cond_false];simp only [Ab.on];generalize (bif (((s==([83,116,114,105,110,103]:Bs)))&&(decide (v.FKind=(3:Int)))) then((((s==([83,116,114,105,110,103]:Bs)))&&(decide (v.FKind=(3:Int))))) else(bif (((s==([66,111,111,108,101,97,110]:Bs)))&&(decide (v.FKind=(1:Int)))) then((((s==([66,111,111,108,101,97,110]:Bs)))&&(decide (v.FKind=(1:Int))))) else((((s==([73,68]:Bs)))&&(decide (v.FKind=(3:Int)))))))=b2
  cases b2
  ·rw [cond_false];cases (((s==([73,68]:Bs)))&&(decide (v.FKind=(2:Int))))
   ·exact⟨_,_,rfl,fail_wk hk (by decide)⟩
   ·rw [cond_true,decimal_eq hv.int.1 hv.int.2]; exact⟨_,_,rfl,hk⟩
  ·exact⟨_,_,rfl,hk⟩
 ·exact⟨_,_,rfl,hk⟩
theorem renum_wk {d:TDoc}{c:Z4}(hk:Wk d c) (t:TDef) (v:Z12):Wk d (Z107_q c t v).2:=by
 have loop:∀l:List Z10,match Z107_q10 c v l with|Sum.inl _=>True|Sum.inr p=>Wk d p.2:=by
  intro l;induction l with
  | nil=>exact trivial
  | cons a r ih =>
   rw [Z107_q10];simp only [Ab.on];cases a.FName==v.FText
   ·exact ih
   ·exact hk
 unfold Z107_q;simp only [Ab.on];cases ((decide (v.FKind=(4:Int)))||((decide (v.FKind=(3:Int)))&&(!c.Flit)))
 ·exact fail_wk hk (by decide)
 ·rw [cond_true];have:=loop t.FMembers.l;cases h:Z107_q10 c v t.FMembers.l with
  | inl u=>exact fail_wk hk (by decide)
  | inr p=>rw [h] at this; exact this
theorem co_step {d:TDoc}(hd:InsOk d){m:Nat}{L:Int}(hL:0<=L/\L<=100) (h:L<=24->CoT d (m+1) (L+1)/\CoT d m (L+1)):CoT d (m+3) L:=by
 intro c t v hk he hv ht;rw [r12_work_coerce_qn];simp only [Ab.on];cases Z77_q c.Fd t.FName
 ·exact⟨_,_,rfl,fail_wk hk (by decide)⟩
 ·rw [Bool.not_true,cond_false];obtain⟨c1,e1,w1,l1⟩:=node_wk hk he L;have kj:∀v:Z12,VW v->∃x c',((Z110_q c L).bind fun x14=>bif (!decide (x14.Ferr=(0:Int))) then(some ((Z12.mk (0:Int) (0:Int) ([]:Bs) true ([]) (Sl.nil:Sl Bs)),x14)) else(bif (decide (v.FKind=(0:Int))) then(some ((Z12.mk (0:Int) (0:Int) ([]:Bs) true ([]) (Sl.nil:Sl Bs)),bif Z52_q t then Z108_q x14 (23:Int) else x14)) else((Z50_q t).bind fun x31=>bif x31.2 then(((r12_work_list_qn (m+2)) x14 x31.1 v L).bind fun x35=>some (x35.1,x35.2)) else(bif Z79_q t.FName then((Z113_q x14 t.FName v).bind fun x41=>some (x41.1,x41.2)) else(bif (decide ((Z75_q x14.Fd t.FName).1.FKind=(4:Int))) then(some ((Z107_q x14 (Z75_q x14.Fd t.FName).1 v).1,(Z107_q x14 (Z75_q x14.Fd t.FName).1 v).2)) else(((r12_work_object_qn (m+2)) x14 (Z75_q x14.Fd t.FName).1 v L).bind fun x50=>some (x50.1,x50.2)))))))=some (x,c')/\Wk d c':=by
   intro v hv;rw [e1,Option.bind_some];by_cases he1:c1.Ferr=0
   ·rw [decide_eq_true he1,Bool.not_true,cond_false];obtain⟨hc1,hc2⟩:=h (l1 he1);cases decide (v.FKind=(0:Int))
    ·rw [cond_false];obtain⟨u,b,eu,hu⟩:=inner11 ht;rw [eu,Option.bind_some];cases b
     ·simp only [cond_false];cases Z79_q t.FName
      ·rw [cond_false];cases decide ((Z75_q c1.Fd t.FName).1.FKind=(4:Int))
       ·rw [cond_false];have hf:=find_in c1.Fd t.FName;rw [w1.1] at hf ⊢;have hin:(Z75_q d t.FName).1.FInputs.l.length<=1048576/\∀x∈(Z75_q d t.FName).1.FInputs.l,VW x.FDefault/\x.FType.FWraps.l.length<=1048576:=by
         rcases hf with hf|hf
         ·exact hd _ hf
         ·rw [hf]; exact⟨Nat.zero_le _,fun _ h=>(by cases h)⟩
        obtain⟨x,c',e,w⟩:=robject_tot (n:=m) hL hc1 hc2 w1 hv hin.1 hin.2;rw [e]; exact⟨_,_,rfl,w⟩
       ·exact⟨_,_,rfl,renum_wk w1 _ _⟩
      ·obtain⟨x,c',e,w⟩:=rscalar_tot w1 t.FName hv;rw [cond_true,e]; exact⟨_,_,rfl,w⟩
     ·simp only [cond_true];obtain⟨x,c',e,w⟩:=rlist_tot (n:=m+1) (t:=u) hL hc1 w1 hv (by have:=hu rfl; omega);rw [e]; exact⟨_,_,rfl,w⟩
    ·rw [cond_true];refine⟨_,_,rfl, ?_⟩;cases Z52_q t
     ·exact w1
     ·exact fail_wk w1 (by decide)
   ·rw [decide_eq_false he1]; exact⟨_,_,rfl,w1⟩
  cases (c.Flit&&(decide (v.FKind=(7:Int))))
  ·exact kj v hv
  ·rw [cond_true,hk.2.1,rget_nil,Option.bind_some,show (!decide ((nilV,false).1.FKind=(0:Int)))=false from rfl,cond_false];exact kj nilV VW.nil
theorem co_all {d:TDoc}(hd:InsOk d):∀(k n:Nat) (L:Int),3*(k+1)<=n->25-(k:Int)<=L->0<=L->L<=25->CoT d n L
 | 0,n,L,h1,h2,h3,h4=>by
  obtain⟨m,rfl⟩:∃m,n=m+3:=⟨n-3,by omega⟩;exact co_step hd (by omega) fun h=>by omega
 | k+1,n,L,h1,h2,h3,h4=>by
  obtain⟨m,rfl⟩:∃m,n=m+3:=⟨n-3,by omega⟩;exact co_step hd (by omega) fun h=>⟨co_all hd k (m+1) (L+1) (by omega) (by omega) (by omega) (by omega),co_all hd k m (L+1) (by omega) (by omega) (by omega) (by omega)⟩
theorem rliteral_ok {d:TDoc}(hd:InsOk d){t:TRef}{v:Z12}(hv:VW v) (ht:t.FWraps.l.length<=1048576):∃r,Z104_q d t v nilV=some r:=by
 unfold Z104_q;simp only [Ab.on];have ms:∃m,Z109_q (Z4.mk d nilV true (0:Int) (0:Int)) v=some m:=by
  unfold Z109_q;cases ((!(Z4.mk d nilV true (0:Int) (0:Int)).Flit)||(!decide (v.FKind=(7:Int))))
  ·rw [cond_false,rget_nil]; exact⟨_,rfl⟩
  ·exact⟨_,rfl⟩
 obtain⟨m,em⟩:=ms;rw [em];have run:∃r,((Z112_q (Z4.mk d nilV true (0:Int) (0:Int)) t v).bind fun x11=>some (x11.1,x11.2.1))=some r:=by
  obtain⟨x,c',e,w⟩:=co_all hd 24 F0 1 (by rw [F0_eq]; omega) (by omega) (by omega) (by omega) (Z4.mk d nilV true (0:Int) (0:Int)) t v ⟨rfl,rfl,rfl,by show (0:Int)<=0; decide,by show (0:Int)<=4097; decide,fun _=>by show (0:Int)<=4096; decide⟩ rfl hv ht;unfold Z112_q r12_work_coerce_q;rw [e,Option.bind_some];cases (!decide ((x,c').2.Ferr=(0:Int)))<;>exact⟨_,rfl⟩
 have g:∀b:Bool,∃r,(bif (Z77_q d t.FName&&b) then(some ((Z12.mk (0:Int) (0:Int) ([]:Bs) true ([]) (Sl.nil:Sl Bs)),(8:Int))) else((Z112_q (Z4.mk d nilV true (0:Int) (0:Int)) t v).bind fun x11=>some (x11.1,x11.2.1)))=some r:=by
  intro b;cases (Z77_q d t.FName&&b)
  ·exact run
  ·exact⟨_,rfl⟩
 have gg:∀c:Bool,∃r,(guardO c (some m) false fun x7=>bif (Z77_q d t.FName&&x7) then(some ((Z12.mk (0:Int) (0:Int) ([]:Bs) true ([]) (Sl.nil:Sl Bs)),(8:Int))) else((Z112_q (Z4.mk d nilV true (0:Int) (0:Int)) t v).bind fun x11=>some (x11.1,x11.2.1)))=some r:=by
  intro c;cases c
  ·exact g false
  ·exact g m
 exact gg _
end Go.Proofs

namespace Go.Proofs
open Go Go.Ab
theorem rdefaults_loop {d:TDoc}(hd:InsOk d){p q r:Bs}(hp:p.length<=10000000) (hq:q.length<=10) (hr:r.length<=10):∀(l:List Z9) (s:Sl Z6),(∀x∈l,VW x.FDefault/\x.FType.FWraps.l.length<=1048576/\x.FName.length<=1048576)->s.l.length+l.length<=1000000000->Tl (Z105_q7 d p q r l s) (s.l.length+l.length)
 | [],s,_,_=>⟨s,rfl,by simp⟩
 | a::t,s,hx,h=>by
  obtain⟨h1,h2,h3⟩:=hx a (.head _);simp only [List.length_cons] at h ⊢;rw [Z105_q7];simp only [Ab.on];refine Tl.bind (a:=s.l.length+1) ?_ fun u hu=>(rdefaults_loop hd hp hq hr t u (fun x hx'=>hx x (.tail _ hx')) (by omega)).mono (by omega);cases a.FHas
  ·exact⟨s,rfl,by omega⟩
  ·rw [Bool.not_true,cond_false];obtain⟨z,e⟩:=rliteral_ok hd h1 h2;have e2:Z104_q d a.FType a.FDefault (Z12.mk (0:Int) (0:Int) ([]:Bs) true ([]) (Sl.nil:Sl Bs))=some z:=e;rw [e2,Option.bind_some];cases (!decide (z.2=(0:Int)))
   ·exact⟨s,rfl,by omega⟩
   ·rw [cond_true,catC_ok (by omega),Option.bind_some,catC_ok (by simp only [List.length_append]; omega),Option.bind_some,catC_ok (by simp only [List.length_append]; omega),Option.bind_some];exact Tl.add1 (by omega) (by omega)
theorem rdefaults_ok {d:TDoc}(hd:InsOk d) (l:Sl Z9){p q r:Bs}(hp:p.length<=10000000) (hq:q.length<=10) (hr:r.length<=10) (hx:∀x∈l.l,VW x.FDefault/\x.FType.FWraps.l.length<=1048576/\x.FName.length<=1048576) (hl:l.l.length<=1048576):Tl (Z105_q d l p q r) l.l.length:=by
 obtain⟨u,e,h⟩:=rdefaults_loop hd hp hq hr l.l Sl.nil hx (by show 0+l.l.length<=_; omega);unfold Z105_q;rw [e];exact⟨u,rfl,by simpa [Sl.nil] using h⟩
structure SzI (x:Z9):Prop where
 v:VW x.FDefault
 w:x.FType.FWraps.l.length<=1048576
 n:x.FName.length<=1048576
theorem szi {x:Z9}(hw:x.wf) (h:x.sz<=1048576):SzI x:=by
 have h1:=x.sz_def;have h2:=TRef.wraps_le x.FType;have h3:=Bs.len_le x.FName;exact⟨VW.of (by omega) hw.2.2.2.1,by omega,by omega⟩
theorem rDefaults_in {d:TDoc}(hd:InsOk d){t:TDef}(ht:t.FName.length<=1048576):∀(l:List Z7) (s:Sl Z6),(∀f∈l,f.FName.length<=1048576/\f.FArgs.l.length<=f.sz/\f.sz<=1048576/\∀x∈f.FArgs.l,SzI x)->s.l.length+(l.map Z7.sz).sum<=1000000000->Tl (Z103_q23 d t l s) (s.l.length+(l.map Z7.sz).sum)
 | [],s,_,_=>⟨s,rfl,by simp⟩
 | a::r,s,hx,h=>by
  obtain⟨h1,h2,h3,h4⟩:=hx a (.head _);simp only [List.map_cons,List.sum_cons] at h ⊢;rw [Z103_q23];simp only [Ab.on];rw [catC_ok (by simp only [List.length_cons,List.length_nil]; omega),Option.bind_some,catC_ok (by simp only [List.length_append,List.length_cons,List.length_nil]; omega),Option.bind_some];refine Tl.appT (a:=s.l.length) (Nat.le_refl _) (rdefaults_ok hd a.FArgs (p:=t.FName++[46]++a.FName) (q:=[40]) (r:=[41]) (by simp only [List.length_append,List.length_cons,List.length_nil]; omega) (by simp) (by simp) (fun x hx'=>⟨(h4 x hx').v,(h4 x hx').w,(h4 x hx').n⟩) (by omega)) (by omega) fun u hu=>?_
  exact(rDefaults_in hd ht r u (fun f hf=>hx f (.tail _ hf)) (by omega)).mono (by omega)
theorem rDefaults_out {d:TDoc}(hd:InsOk d):∀(l:List TDef) (s:Sl Z6),(∀t∈l,t.wf/\t.sz<=1048576)->s.l.length+2*(l.map TDef.sz).sum<=1000000000->Tl (Z103_q7 d l s) (s.l.length+2*(l.map TDef.sz).sum)
 | [],s,_,_=>⟨s,rfl,by simp⟩
 | a::r,s,hx,h=>by
  obtain⟨h1,h2⟩:=hx a (.head _);simp only [List.map_cons,List.sum_cons] at h ⊢;have hs:=a.sz_def;have hf:Sl.sz Z7.sz a.FFields=1+(a.FFields.l.map Z7.sz).sum:=rfl;have hi:=Sl.len_le (f:=Z9.sz) a.FInputs (fun x=>x.pos);have hn:=Bs.len_le a.FName;rw [Z103_q7];simp only [Ab.on];refine Tl.bind (a:=s.l.length+(a.FFields.l.map Z7.sz).sum) (rDefaults_in hd (by omega) a.FFields.l s (fun f hf'=>?_) (by omega)) fun u hu=>?_
  ·have h5:=Sl.mem_le (f:=Z7.sz) hf';have h6:=f.sz_def;have h7:=Bs.len_le f.FName;have h8:=Sl.len_le (f:=Z9.sz) f.FArgs (fun x=>x.pos);exact⟨by omega,by omega,by omega,fun x hx'=>szi ((h1.2.2.2.2.1.2.2 f hf').2.1.2.2 x hx') (by have:=Sl.mem_le (f:=Z9.sz) hx'; omega)⟩
  ·refine Tl.appT (a:=s.l.length+(a.FFields.l.map Z7.sz).sum) hu (rdefaults_ok hd a.FInputs (p:=a.FName) (q:=[46]) (r:=[]) (by omega) (by simp) (by simp) (fun x hx'=>?_) (by omega)) (by omega) fun v hv=>(rDefaults_out hd r v (fun t ht=>hx t (.tail _ ht)) (by omega)).mono (by omega);have:=szi (h1.2.2.2.2.2.2.1.2.2 x hx') (by have:=Sl.mem_le (f:=Z9.sz) hx'; omega);exact⟨this.v,this.w,this.n⟩
theorem ins_ok {d:TDoc}(hw:d.wf) (hd:d.sz<=1048576):InsOk d:=fun t ht=>by
 have h1:=TDoc.def_le ht;have h2:=t.sz_def;have h3:=Sl.len_le (f:=Z9.sz) t.FInputs (fun x=>x.pos);refine⟨by omega,fun x hx=>?_⟩;have:=szi ((hw.1.2.2 t ht).2.2.2.2.2.2.1.2.2 x hx) (by have:=Sl.mem_le (f:=Z9.sz) hx; omega);exact⟨this.v,this.w⟩
theorem rDefaults_ok {d:TDoc}(hw:d.wf) (hd:d.sz<=1048576):Tl (Z103_q d) 3000000:=by
 have hs:=d.sz_def;have hi:Sl.sz TDef.sz d.FDefs=1+(d.FDefs.l.map TDef.sz).sum:=rfl;obtain⟨u,e,h⟩:=rDefaults_out (ins_ok hw hd) d.FDefs.l Sl.nil (fun t ht=>⟨hw.1.2.2 t ht,by have:=TDoc.def_le ht; omega⟩) (by show 0+2*(d.FDefs.l.map TDef.sz).sum<=_; omega);unfold Z103_q;rw [e];refine⟨u,rfl, ?_⟩;have:(Sl.nil:Sl Z6).l.length=0:=rfl;omega
end Go.Proofs

namespace Go.Proofs
open Go Go.Ab
theorem awake50:Z34=some true:=by kernel_rfl
def vd (c:Z5):Z13:=Z13.mk c true (Sl.nil:Sl Int)
theorem app120 {s r:Sl Z13}(h:s.l.length+r.l.length<=1000000000000):appC 120 s r=some ⟨s.nl&&r.l.isEmpty,s.l++r.l⟩:=by
 unfold appC; rw [if_pos];have:(s.l.length+r.l.length)*120<=1000000000000*120:=Nat.mul_le_mul_right _ h;unfold maxN; omega
theorem check13 (a b:TDoc) (X:Sl Z5) (hX:X.l.length<=100000000000):∀(n i:Nat) (nl:Bool),i<=X.l.length->X.l.length-i<n->∃nl',Z29_l13 a b (Sl.nil:Sl (Sl Z3)) X n ⟨nl,(X.l.take i).map vd⟩ i=some ⟨nl',X.l.map vd⟩
 | 0,_,_,_,h=>by omega
 | n+1,i,nl,h1,h2=>by
  rw [Z29_l13];by_cases hi:i<X.l.length
  ·rw [decide_eq_true (by omega:((i:Nat):Int)<((X.l.length:Nat):Int)),cond_true,List.getElem?_eq_getElem hi,Option.bind_some];rw [show (Sl.nil:Sl (Sl Z3)).l.length+1=0+1 from rfl,Z29_l30,show decide (((0:Nat):Int)<(((Sl.nil:Sl (Sl Z3)).l.length:Nat):Int))=false from rfl,cond_false];unfold Z29_j25 Z29_j19;rw [app120 (by simp only [List.length_map,List.length_take,List.length_cons,List.length_nil]; omega),Option.bind_some]
   have e:(X.l.take i).map vd++[Z13.mk X.l[i] true (Sl.nil:Sl Int)]=(X.l.take (i+1)).map vd:=by
    rw [List.take_add_one,List.getElem?_eq_getElem hi,List.map_append]; rfl
   simp only [e];exact check13 a b X hX n (i+1) _ (by omega) (by omega)
  ·rw [decide_eq_false (by omega:¬((i:Nat):Int)<((X.l.length:Nat):Int)),cond_false,List.take_of_length_le (by omega)];exact⟨nl,rfl⟩
theorem evolve_is {a b:TDoc}{X:Sl Z5}(h:Z14_q a b=some X) (hX:X.l.length<=100000000000):∃nl,Z29_q a b (Sl.nil:Sl Z11)=some ⟨nl,X.l.map vd⟩:=by
 unfold Z29_q Z29;rw [show (Sl.nil:Sl Z11).l.length+1=0+1 from rfl,Z29_l59,show decide (((0:Nat):Int)<(((Sl.nil:Sl Z11).l.length:Nat):Int))=false from rfl,cond_false];unfold Z29_j4;rw [Z14_eq,h,Option.bind_some];exact check13 a b X hX (X.l.length+1) 0 true (Nat.zero_le _) (by omega)
theorem safe_all:∀l:List Z5,Z30_q6 (l.map vd)=Sum.inl ()
 | []=>rfl
 | c::r=>by rw [List.map_cons,Z30_q6]; exact safe_all r
section
variable {α κ γ:Type} [BEq κ] [LawfulBEq κ]
theorem find_self {key:α->κ}:∀{A:List α},Dst key A->∀x∈A,A.find? (fun t=>key t==key x)=some x
 | [],_,_,h=>(by cases h)
 | a::A,h,x,hx=>by
  obtain⟨h1,h2⟩:=List.pairwise_cons.mp h;rw [List.find?_cons];rcases List.mem_cons.1 hx with rfl|hx
  ·rw [beq_self_eq_true]
  ·rw [show (key a==key x)=false from beq_eq_false_iff_ne.mpr (h1 x hx)];exact find_self h2 x hx
theorem fm_nil {f:α->List γ}:∀{A:List α},(∀x∈A,f x=[])->A.flatMap f=[]
 | [],_=>rfl
 | a::A,h=>by rw [List.flatMap_cons,h a (.head _),fm_nil fun x hx=>h x (.tail _ hx)]; rfl
theorem lon_self {key:α->κ}{g:α->List γ}{A:List α}(h:Dst key A):lon key g A A=[]:=fm_nil fun x hx=>by rw [find_self h x hx]
theorem dif_self {key:α->κ}{w:α->α->List γ}{g:α->List γ}{A:List α}(h:Dst key A) (hw:∀x∈A,w x x=[]):dif key w g A A=[]:=fm_nil fun x hx=>by rw [find_self h x hx]; exact hw x hx
theorem prs_self {key:α->κ}{w:α->α->List γ}{A:List α}(h:Dst key A) (hw:∀x∈A,w x x=[]):prs key w A A=[]:=fm_nil fun x hx=>by rw [find_self h x hx]; exact hw x hx
end
theorem saV_refl (a:TRef):saV a a=true:=by unfold saV; simp
theorem inX_self (n:Bs) (K:Z1) (p:Bs->Bs×Bs){A:List Z9}(h:Dst Z9.FName A) (hA:∀x∈A,IOk x):inX n K p A A=[]:=by
 unfold inX;rw [lon_self h,dif_self h fun x hx=>?_]; rfl;unfold inW;rw [saV_refl,vsX_refl (hA x hx).s];cases x.FHas<;>rfl
theorem fdX_self (n:Bs){t:TDef}(h:DDst t) (ht:TOk t):fdX n t.FFields.l t.FFields.l=[]:=by
 unfold fdX;rw [lon_self h.f,dif_self h.f fun x hx=>?_]; rfl;unfold fdW;rw [saV_refl,inX_self _ _ _ (h.a x hx) (ht.f x hx).a]; rfl
theorem mis_self (l:List Bs):mis l l=[]:=by
 unfold mis;rw [List.filter_eq_nil_iff];intro x hx;simp [hx]
theorem diffX_self {A:List TDef}(h:Dst TDef.FName A) (hd:∀t∈A,DDst t) (ht:∀t∈A,TOk t):diffX A A=[]:=by
 unfold diffX;rw [lon_self h,lon_self h,prs_self h fun x hx=>?_]; rfl;unfold tyW;rw [decide_eq_true rfl,Bool.not_true,cond_false];unfold dfX;rw [fdX_self _ (hd x hx) (ht x hx),inX_self _ _ _ (hd x hx).i (ht x hx).i,mis_self,mis_self]; rfl
theorem tw_sz (t:TDef):1+tw t<=t.sz:=by
 have h1:=t.sz_def;have h2:=Sl.len_le (f:=Z10.sz) t.FMembers (fun x=>x.pos);have h3:=Sl.len_le (f:=Z9.sz) t.FInputs (fun x=>x.pos);have h4:=Sl.len_le (f:=Bs.sz) t.FImplements (fun x=>Bs.sz_pos x);have h5:Sl.sz Z7.sz t.FFields=1+(t.FFields.l.map Z7.sz).sum:=rfl;have h6:(t.FFields.l.map fw).sum<=(t.FFields.l.map Z7.sz).sum:=sum_le _ _ _ fun f _=>by
  have:=f.sz_def;have:=Sl.len_le (f:=Z9.sz) f.FArgs (fun x=>x.pos);unfold fw;have:=Bs.sz_pos f.FName;omega
 have h7:=Bs.sz_pos t.FName;unfold tw; omega
theorem dw_sz (d:TDoc):dw d.FDefs.l<=d.sz:=by
 have h1:=d.sz_def;have h2:Sl.sz TDef.sz d.FDefs=1+(d.FDefs.l.map TDef.sz).sum:=rfl;have h3:dw d.FDefs.l<=(d.FDefs.l.map TDef.sz).sum:=sum_le _ _ _ fun t _=>tw_sz t;omega
structure DocN (d:TDoc):Prop where
 t:∀t∈d.FDefs.l,TOk t
 n:Dst TDef.FName d.FDefs.l
 e:∀t∈d.FDefs.l,DDst t
theorem right_sm {d:TDoc}(h:Z58_q d=some true):d.FDefs.l.length<=600/\∀t∈d.FDefs.l,Sm t/\t.FImplements.l.length<=600:=by
 constructor
 ·unfold Z58_q at h;rcases condE h with ⟨_,h⟩|⟨h1,_⟩
  ·cases h
  ·simp only [Bool.or_eq_false_iff,decide_eq_false_iff_not] at h1;omega
 ·exact fun t ht=>def_small (doc_right h t ht)
theorem schema_told {d:TDoc}(hw:d.wf) (hd:d.sz<=1048576) (hr:Z58_q d=some true):∃r,Z116_q d=some r/\(r.l=[]->DocN d):=by
 obtain⟨x3,e3,b3⟩:=check_tl hd true;unfold Z116_q;rw [e3,Option.bind_some];by_cases h0:x3.l.length=0
 ·obtain⟨x10,e10,b10⟩:=faces_tl hd (right_sm hr);obtain⟨x13,e13,b13⟩:=rDefaults_ok hw hd;have hx:=List.eq_nil_of_length_eq_zero h0;obtain⟨v,ev,lv⟩:∃v,appC 24 x3 x10=some v/\v.l.length=x3.l.length+x10.l.length:=⟨_,appC_ok (by decide) (by omega),by simp⟩;obtain⟨u,eu⟩:∃u,appC 24 v x13=some u:=⟨_,appC_ok (by decide) (by omega)⟩;rw [show decide ((0:Int)<((x3.l.length:Nat):Int))=false from decide_eq_false (by omega),cond_false,e10,Option.bind_some,ev,Option.bind_some,e13,Option.bind_some,eu]
  refine⟨u,rfl,fun _=>?_⟩;obtain⟨c1,c2⟩:=check_dst e3 hx;refine⟨fun t ht=>tok (hw.1.2.2 t ht) (by have:=TDoc.def_le ht; omega),c1,fun t ht=>?_⟩;obtain⟨p1,p2⟩:=c2 t ht;obtain⟨q1,q2⟩:=def_parts (doc_right hr t ht);refine⟨?_, ?_, ?_⟩
  ·rcases q1 with q|q
   ·exact(p1 q).1
   ·rw [q]; exact List.Pairwise.nil
  ·rcases q1 with q|q
   ·exact(p1 q).2
   ·rw [q]; intro x hx; cases hx
  ·rcases q2 with q|q
   ·exact p2 q
   ·rw [q]; exact List.Pairwise.nil
 ·rw [show decide ((0:Int)<((x3.l.length:Nat):Int))=true from decide_eq_true (by omega)];exact⟨x3,rfl,fun h=>absurd (by rw [h]; rfl) h0⟩
theorem right_told {a b:TDoc}(wa:a.wf) (wb:b.wf) (sa:a.sz<=1048576) (sb:b.sz<=1048576):∃r,Z35_q a b (Sl.nil:Sl Z11)=some r/\(r=true->DocN a/\DocN b):=by
 obtain⟨x4,e4⟩:=Z58_ok a sa;obtain⟨x5,e5⟩:=Z58_ok b sb;unfold Z35_q;rw [e4,Option.bind_some,e5];cases x4
 ·exact⟨false,rfl,fun h=>(by cases h)⟩
 cases x5
 ·exact⟨false,rfl,fun h=>(by cases h)⟩
 obtain⟨x6,e6,n6⟩:=schema_told wa sa e4;obtain⟨x7,e7,n7⟩:=schema_told wb sb e5;have g:∀{β:Type}{k:Bool->Option β},guardO (!(!true)) (some true) false k=k true:=fun {_ _}=>rfl;rw [g];simp only [Bool.not_true,Bool.false_or,Bool.not_false];rw [e6,e7];have g2:∀{k:Sl Z6->Option Bool},guardO true (some x6) (Sl.nil:Sl Z6) k=k x6:=fun {_}=>rfl;rw [g2];by_cases h6:x6.l.length=0
 ·rw [show decide ((0:Int)<((x6.l.length:Nat):Int))=false from decide_eq_false (by omega)];have g3:∀{k:Sl Z6->Option Bool},guardO (!false) (some x7) (Sl.nil:Sl Z6) k=k x7:=fun {_}=>rfl;rw [g3];by_cases h7:x7.l.length=0
  ·rw [show decide ((0:Int)<((x7.l.length:Nat):Int))=false from decide_eq_false (by omega)];exact⟨true,rfl,fun _=>⟨n6 (List.eq_nil_of_length_eq_zero h6),n7 (List.eq_nil_of_length_eq_zero h7)⟩⟩
  ·rw [show decide ((0:Int)<((x7.l.length:Nat):Int))=true from decide_eq_true (by omega)];exact⟨false,rfl,fun h=>(by cases h)⟩
 ·rw [show decide ((0:Int)<((x6.l.length:Nat):Int))=true from decide_eq_true (by omega)];exact⟨false,rfl,fun h=>(by cases h)⟩
theorem nothing_eq {a b:TDoc}(wa:a.wf) (wb:b.wf) (sa:a.sz<=1048576) (sb:b.sz<=1048576):Z33_q a b=some true:=by
 obtain⟨x4,e4,h4⟩:=right_told wa wb sa sb;unfold Z33_q;rw [e4,Option.bind_some,awake50];cases x4
 ·rfl
 ·obtain⟨o1,o2⟩:=h4 rfl;have l1:=diffX_len o1.n o2.n o1.e o2.e;have s1:=dw_sz a;have s2:=dw_sz b;obtain⟨n1,d1⟩:=diff_is o1.t o2.t (by unfold maxD; omega);obtain⟨n2,d2⟩:=diff_is o1.t o1.t (by rw [diffX_self o1.n o1.e o1.t]; exact Nat.zero_le _);obtain⟨m1,v1⟩:=evolve_is d1 (by show (diffX a.FDefs.l b.FDefs.l).length<=_; omega);obtain⟨m2,v2⟩:=evolve_is d2 (by rw [diffX_self o1.n o1.e o1.t]; exact Nat.zero_le _)
  rw [Bool.not_true,cond_false,v1,Option.bind_some,v2];simp only [Ab.on];have hs:Z30_q (⟨m1,(diffX a.FDefs.l b.FDefs.l).map vd⟩:Sl Z13)=true:=by
   unfold Z30_q;simp only [Ab.on,safe_all]
  rw [hs,diffX_self o1.n o1.e o1.t];rfl
end Go.Proofs

namespace Go.Proofs.YtbcphmbgonamlaaGreatDoor
open Go Go.Ab Go.RowKit Go.ChangeShapes Go.WideShapes Go.ChangeAt
variable {lou:Lou} [IsLoud lou]
theorem bulkAll {H:Type}(l:List (DataW H)):Rows.uptoBulkAll l=(l.map Rows.uptoBulk).sum:=by
 induction l with
 | nil=>rfl
 | cons x r ih=>simp only [Rows.uptoBulkAll,List.map_cons,List.sum_cons,ih]
theorem bulkB {H:Type}:Bulk (H:=H) Rows.uptoBulk:=by
 refine⟨fun d=>?_,fun b=>by simp [Rows.uptoBulk],fun e s=>by simp only [Rows.uptoBulk,bulkAll]; omega,fun l=>by simp only [Rows.uptoBulk,bulkAll]; omega⟩;cases d with
 | lit l=>cases l<;>simp [Rows.uptoBulk]
 | nil=>simp [Rows.uptoBulk]
 | ptr d=>simp [Rows.uptoBulk]
 | slice elems spare=>simp [Rows.uptoBulk]
 | agg parts=>simp [Rows.uptoBulk]
 | iface t d=>simp [Rows.uptoBulk]
 | map entries=>simp [Rows.uptoBulk]
 | held h=>simp [Rows.uptoBulk]
theorem own:ownKnob Tryz.prog.godebug=none:=by kernel_rfl
theorem laid:laidOutB Tryz.prog=true:=by kernel_rfl
theorem bound {H:Type}{l:List (DataW H)}(hk:Rows.uptoSmall H l=true):Rows.uptoBulkAll l<=1048576:=of_decide_eq_true hk
theorem table {W:World}(h:laidMet Tryz.prog Rows.evolveNothingUptoRow.laid W):∃u fr,W.heap[1]?=some (.cells (Lib.pow10Tab.map fun z=>Value.int .u64 z).toArray u fr) :=
 tab_of (P:=Tryz.prog) (name := "internal/strconv.uint64pow10") (g:=1) (t:=377) (e:=323) (n:=20) (by kernel_rfl) (by kernel_rfl) (by kernel_rfl) (by kernel_rfl) (by kernel_rfl) (by kernel_rfl) h
  (by rw [show (Lib.tabData .u64 Lib.pow10Tab:DataW Unit)=Rows.laid_internal_strconv_uint64pow10 from(by kernel_rfl)]; exact .tail _ (.tail _ (.head _)))
theorem isTab (u:TypeId) (fr:Nat×Nat):IsTab Tryz.prog (.fix 1 (.cells (Lib.pow10Tab.map fun z=>Value.int .u64 z).toArray u fr)):=.of (by kernel_rfl)
theorem nothing_call (a b:TDoc) (ha:a.sz<=1048576) (hb:b.sz<=1048576) (wa:a.wf) (wb:b.wf) (u:TypeId) (fr:Nat×Nat):ACalls Tryz.prog 3 [.agg a.c,.agg b.c] (hTab 1 (.cells (Lib.pow10Tab.map fun z=>Value.int .u64 z).toArray u fr)) fun r h'=>r=.a (.d (.bool true))/\h'=hTab 1 (.cells (Lib.pow10Tab.map fun z=>Value.int .u64 z).toArray u fr) :=
 Z33_walk (by rw [Z33_eq]; exact nothing_eq wa wb ha hb) _ (gT:=0) rfl (isTab u fr)
end Go.Proofs.YtbcphmbgonamlaaGreatDoor

