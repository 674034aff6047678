import Derived.Test.YtbbkbkhdciklaaaGreatDoorV10
import Derived.Test.YtbbkbkhdciklaaaGreatDoorRows
set_option maxRecDepth 100000
set_option maxHeartbeats 2000000
set_option linter.unusedVariables false
set_option linter.unusedSimpArgs false
namespace Go.Proofs
open Go Go.Ab
theorem SM (s:Bs) (l:List ay):kJ s l=(match l.find? (fun t=>t.aa==s) with|some t=>Sum.inr (t,true)|none=>Sum.inl ()):=by
 induction l with
 | nil=>rfl
 | cons a r b =>
  rw [kJ,List.find?_cons];simp only [on,b];cases a.aa==s<;>rfl
theorem nc (d:an) (s:Bs):fH d s=bY d.aA.l s:=by
 unfold fH bY on;rw [SM];cases d.aA.l.find? (fun t=>t.aa==s)<;>rfl
theorem Fc {l:List ay}{s:Bs}(h:(bY l s).2=false):(bY l s).1=ay.zero:=by
 unfold bY at h ⊢;cases e:l.find? (fun t=>t.aa==s) with
 | none=>rfl
 | some t=>rw [e] at h; cases h
theorem SN (s:Bs):∃b,uB s=some b:=by
 unfold uB
 match s with
 | []=>exact⟨_,rfl⟩
 | [x]=>exact⟨_,rfl⟩
 | x::y::r =>
  have e:decide ((2:Int)<=(((x::y::r).length:Nat):Int))=true:=by simp; omega
  simp only [a_,e,if_true,oB,List.getElem?_cons_zero,List.getElem?_cons_succ];cases decide (((x.toNat:Nat):Int)=95)<;>exact⟨_,rfl⟩
theorem SO (s:Bs):xG s=some (gj s):=by
 unfold xG gj;obtain⟨b,e⟩:=SN s;simp only [on,e];cases fB s<;>rfl
theorem Br (n:Bs) (bad before:Bool) (at_:Bs):∃nl,lC n bad before at_=some ⟨nl,cw (bad||!gj n) 6 at_++cw before 7 at_⟩:=by
 unfold lC;rw [SO];generalize gj n=b;cases bad<;>cases b<;>cases before<;>exact⟨_,rfl⟩
theorem vc {α:Type}(f:α->Bs) (n:Bs):∀l:List α,(l.map f).contains n=l.any fun y=>f y==n
 | []=>rfl
 | a::r=>by
  rw [List.map_cons,List.contains_cons,vc f n r,List.any_cons,BEq.comm]
theorem Kj (n:Bs):∀l:List az,(match lD n l with|.inl _=>false|.inr e=>e.2)=l.any fun y=>y.aa==n
 | []=>rfl
 | a::r=>by
  rw [lD,List.any_cons,<- Kj n r];simp only [on];cases a.aa==n<;>rfl
theorem SP (s:Sl az) (n:Bs):(lE s n).2=(s.l.map az.aa).contains n:=by
 rw [vc,<- Kj];unfold lE;simp only [on];cases lD n s.l<;>rfl
theorem Kk (n:Bs):∀l:List aT,(match lG n l with|.inl _=>false|.inr e=>e.2)=l.any fun y=>y.aa==n
 | []=>rfl
 | a::r=>by
  rw [lG,List.any_cons,<- Kk n r];simp only [on];cases a.aa==n<;>rfl
theorem SQ (t:ay) (n:Bs):(p7 t n).2=(t.bA.l.map aT.aa).contains n:=by
 rw [vc,<- Kk];unfold p7;simp only [on];cases lG n t.bA.l<;>rfl
theorem ve {α:Type}{l r:List α}{i:Nat}{x:α}(h:l.drop i=x::r):l.take (i+1)=l.take i++[x]:=by
 rw [List.take_add_one,(qD h).2]; rfl
theorem kP {s r:Sl Z9}(h:s.l.length+r.l.length<=1000000000000):bq 24 s r=some ⟨s.nl&&r.l.isEmpty,s.l++r.l⟩:=fU (by decide) (by omega)
theorem yA (u:Sl Z9) (b:Bool) (e:Int) (at_:Bs) (h:u.l.length<=100000000000):∃nl,(bif b then((bq 24 u (⟨false,[(Z9.mk e at_)]⟩:Sl Z9)).bind fun x=>some x) else some u)=some ⟨nl,u.l++cw b e at_⟩:=by
 cases b
 ·exact⟨u.nl,by simp [cw]⟩
 ·rw [cond_true,kP (by simp; omega)]; exact⟨_,rfl⟩
theorem SR (d:an) (n at_:Bs) (u:Sl Z9) (h:u.l.length<=100000000000):∃nl,(bif (!mD d n) then((bq 24 u (⟨false,[(Z9.mk 8 at_)]⟩:Sl Z9)).bind fun b=>some b) else(bif (!lF d n) then((bq 24 u (⟨false,[(Z9.mk 10 at_)]⟩:Sl Z9)).bind fun f=>some f) else(some u)))=some ⟨nl,u.l++m_ d n at_ 1⟩:=by
 have e:(!mD d n)=(!(bY d.aA.l n).2&&!fu n):=by
  unfold mD;simp only [on,nc];cases fu n<;>cases (bY d.aA.l n).2<;>rfl
 rw [e];unfold m_;cases (!(bY d.aA.l n).2&&!fu n)
 ·exact yA u _ 10 at_ h
 ·exact yA u true 8 at_ h
theorem SS (d:an) (n at_:Bs) (u:Sl Z9) (h:u.l.length<=100000000000):∃nl,(bif (!mD d n) then((bq 24 u (⟨false,[(Z9.mk 8 at_)]⟩:Sl Z9)).bind fun b=>some b) else(bif (((!fu n)&&(bY d.aA.l n).2)&&(decide ((bY d.aA.l n).1.aj=(5:Int)))) then((bq 24 u (⟨false,[(Z9.mk 10 at_)]⟩:Sl Z9)).bind fun f=>some f) else(some u)))=some ⟨nl,u.l++m_ d n at_ 0⟩:=by
 have e:(!mD d n)=(!(bY d.aA.l n).2&&!fu n):=by
  unfold mD;simp only [on,nc];cases fu n<;>cases (bY d.aA.l n).2<;>rfl
 have g:(((!fu n)&&(bY d.aA.l n).2)&&(decide ((bY d.aA.l n).1.aj=(5:Int))))=(!fu n&&decide ((bY d.aA.l n).1.aj=(5:Int))):=by
  cases j:(bY d.aA.l n).2
  ·rw [Fc j]; cases fu n<;>rfl
  ·cases fu n<;>rfl
 rw [e,g];unfold m_;cases (!(bY d.aA.l n).2&&!fu n)
 ·exact yA u _ 10 at_ h
 ·exact yA u true 8 at_ h
theorem Kl {d:an}{f:Sl az}{a b:Bs}(j:a.length<=4000000) (k:b.length<=4000000):∀(l:List az) (i:Nat) (s:Sl Z9),f.l.drop i=l->(∀x∈l,x.aa.length<=1048576) ->
  s.l.length+(jY d a b ((f.l.take i).map az.aa) l).length<=10000000000->∃nl,mF d f a b l i s=some ⟨nl,s.l++jY d a b ((f.l.take i).map az.aa) l⟩
 | [],i,s,_,_,_=>⟨s.nl,by rw [mF]; simp [jY]⟩
 | x::r,i,s,hd,hx,hl=>by
  have hn:=hx x (.head _);rw [jY] at hl ⊢;simp only [List.length_append] at hl;rw [mF];simp only [on];rw [eY (by omega),oB,eY (by simp; omega),oB,SP];obtain⟨v,g⟩:=Br x.aa false (((f.l.take i).map az.aa).contains x.aa) (a++x.aa++b);simp only [Bool.false_or] at g;rw [g,oB,kP (by simp only [List.length_append]; omega),oB]
  obtain⟨m,p⟩:=SR d x.aM.aa (a++x.aa++b) ⟨s.nl&&(cw (!gj x.aa) 6 (a++x.aa++b)++cw (((f.l.take i).map az.aa).contains x.aa) 7 (a++x.aa++b)).isEmpty,s.l++(cw (!gj x.aa) 6 (a++x.aa++b)++cw (((f.l.take i).map az.aa).contains x.aa) 7 (a++x.aa++b))⟩ (by simp only [List.length_append]; omega);rw [p,oB];have ht:(f.l.take (i+1)).map az.aa=(f.l.take i).map az.aa++[x.aa]:=by rw [ve hd,List.map_append]; rfl
  obtain⟨q,t⟩:=Kl (d:=d) j k r (i+1) ⟨m,(s.l++(cw (!gj x.aa) 6 (a++x.aa++b)++cw (((f.l.take i).map az.aa).contains x.aa) 7 (a++x.aa++b)))++m_ d x.aM.aa (a++x.aa++b) 1⟩ (qD hd).1 (fun y u=>hx y (.tail _ u)) (by rw [ht]; simp only [List.length_append]; omega);rw [t,ht];exact⟨q,by simp only [List.append_assoc]⟩
theorem Km {d:an}(f:Sl az){a b:Bs}(g:a.length<=4000000) (j:b.length<=4000000) (hx:∀x∈f.l,x.aa.length<=1048576) (hl:(jY d a b [] f.l).length<=10000000000):∃nl,pZ d f a b=some ⟨nl,jY d a b [] f.l⟩:=by
 obtain⟨nl,e⟩:=Kl (d:=d) g j f.l 0 (Sl.nil:Sl Z9) rfl hx (by show 0+_<=_; simpa using hl);unfold pZ;rw [e];exact⟨nl,rfl⟩
theorem Kn {d:an}{t:ay}(j:t.aa.length<=1048576):∀(l:List aT) (i:Nat) (s:Sl Z9),t.bA.l.drop i=l->(∀x∈l,x.aa.length<=1048576/\∀y∈x.aG.l,y.aa.length<=1048576) ->
  s.l.length+(qJ d t.aa ((t.bA.l.take i).map aT.aa) l).length<=10000000000->∃nl,lH d t l i s=some ⟨nl,s.l++qJ d t.aa ((t.bA.l.take i).map aT.aa) l⟩
 | [],i,s,_,_,_=>⟨s.nl,by rw [lH]; simp [qJ]⟩
 | x::r,i,s,hd,hx,hl=>by
  obtain⟨hn,f⟩:=hx x (.head _);rw [qJ] at hl ⊢;simp only [List.length_append] at hl;rw [lH];simp only [on,nc];rw [eY (by simp; omega),oB,eY (by simp; omega),oB,SQ];obtain⟨v,g⟩:=Br x.aa false (((t.bA.l.take i).map aT.aa).contains x.aa) (t.aa++[46]++x.aa);simp only [Bool.false_or] at g;rw [g,oB,kP (by simp only [List.length_append]; omega),oB]
  obtain⟨k,m⟩:=SS d x.aM.aa (t.aa++[46]++x.aa) ⟨s.nl&&(cw (!gj x.aa) 6 (t.aa++[46]++x.aa)++cw (((t.bA.l.take i).map aT.aa).contains x.aa) 7 (t.aa++[46]++x.aa)).isEmpty,s.l++(cw (!gj x.aa) 6 (t.aa++[46]++x.aa)++cw (((t.bA.l.take i).map aT.aa).contains x.aa) 7 (t.aa++[46]++x.aa))⟩ (by simp only [List.length_append]; omega);rw [m,oB,eY (by simp; omega),oB]
  obtain⟨w,p⟩:=Km (d:=d) x.aG (a:=t.aa++[46]++x.aa++[40]) (b:=[41]) (by simp; omega) (by simp) f (by omega);rw [p,oB,kP (by simp only [List.length_append]; omega),oB];have ht:(t.bA.l.take (i+1)).map aT.aa=(t.bA.l.take i).map aT.aa++[x.aa]:=by rw [ve hd,List.map_append]; rfl
  obtain⟨q,u⟩:=Kn (d:=d) j r (i+1) ⟨k&&(jY d (t.aa++[46]++x.aa++[40]) [41] [] x.aG.l).isEmpty,((s.l++(cw (!gj x.aa) 6 (t.aa++[46]++x.aa)++cw (((t.bA.l.take i).map aT.aa).contains x.aa) 7 (t.aa++[46]++x.aa)))++m_ d x.aM.aa (t.aa++[46]++x.aa) 0)++jY d (t.aa++[46]++x.aa++[40]) [41] [] x.aG.l⟩ (qD hd).1 (fun y f=>hx y (.tail _ f)) (by rw [ht]; simp only [List.length_append]; omega)
  rw [u,ht];exact⟨q,by simp only [List.append_assoc]⟩
theorem Fe (t:ay) (x:bC):∀(m k:Nat) (b:Bool),k+m<=t.bV.l.length->nW t x m k b=some (b||((t.bV.l.drop k).take m).any fun y=>y.aa==x.aa)
 | 0,k,b,_=>by rw [nW]; simp
 | m+1,k,b,h=>by
  rw [nW];have hk:k<t.bV.l.length:=by omega
  rw [List.drop_eq_getElem_cons hk,List.take_succ_cons,List.any_cons];cases b
  ·simp only [a_,Bool.not_false,if_true,List.getElem?_eq_getElem hk,oB,Bool.false_or];rw [Fe t x m (k+1) _ (by omega)]
  ·simp only [a_,Bool.not_true,Bool.false_eq_true,if_false,Bool.true_or];rw [Fe t x m (k+1) _ (by omega),Bool.true_or]
theorem Ko {t:ay}(b:t.aa.length<=1048576):∀(l:List bC) (i:Nat) (s:Sl Z9),t.bV.l.drop i=l->(∀x∈l,x.aa.length<=1048576) ->
  s.l.length+(oF t.aa ((t.bV.l.take i).map bC.aa) l).length<=10000000000->∃nl,kL t l i s=some ⟨nl,s.l++oF t.aa ((t.bV.l.take i).map bC.aa) l⟩
 | [],i,s,_,_,_=>⟨s.nl,by rw [kL]; simp [oF]⟩
 | x::r,i,s,hd,hx,hl=>by
  have hn:=hx x (.head _);have hi:i<t.bV.l.length:=by
   have:=congrArg List.length hd; simp at this; omega
  rw [oF] at hl ⊢;simp only [List.length_append] at hl;rw [kL];simp only [on];rw [Fe t x i 0 false (by omega),oB,eY (by simp; omega),oB,eY (by simp; omega),oB,List.drop_zero,Bool.false_or,<- vc];obtain⟨p,f⟩:=Br x.aa (yy x.aa) (((t.bV.l.take i).map bC.aa).contains x.aa) (t.aa++[46]++x.aa);have g:lC x.aa ((((x.aa==([116,114,117,101]:Bs)))||((x.aa==([102,97,108,115,101]:Bs))))||((x.aa==([110,117,108,108]:Bs)))) (((t.bV.l.take i).map bC.aa).contains x.aa) (t.aa++[46]++x.aa)=_:=f
  rw [g,oB,kP (by simp only [List.length_append]; omega),oB];have ht:(t.bV.l.take (i+1)).map bC.aa=(t.bV.l.take i).map bC.aa++[x.aa]:=by rw [ve hd,List.map_append]; rfl
  have H:∀u:Sl Z9,u.l=s.l++(cw (yy x.aa||!gj x.aa) 6 (t.aa++[46]++x.aa)++cw (((t.bV.l.take i).map bC.aa).contains x.aa) 7 (t.aa++[46]++x.aa)) ->
    ∃nl,kL t r (i+1) u=some ⟨nl,s.l++((cw (yy x.aa||!gj x.aa) 6 (t.aa++[46]++x.aa)++cw (((t.bV.l.take i).map bC.aa).contains x.aa) 7 (t.aa++[46]++x.aa))++oF t.aa ((t.bV.l.take i).map bC.aa++[x.aa]) r)⟩:=by
   intro u hu;obtain⟨j,k⟩:=Ko b r (i+1) u (qD hd).1 (fun y m=>hx y (.tail _ m)) (by rw [ht,hu]; simp only [List.length_append]; omega);rw [k,ht,hu];exact⟨j,by simp only [List.append_assoc]⟩
  exact H _ rfl
theorem Kp (n:Bs):∀l:List Bs,(match nV n l with|.inl _=>false|.inr e=>e)=l.contains n
 | []=>rfl
 | a::r=>by
  rw [nV,List.contains_cons,<- Kp n r,BEq.comm];simp only [on];cases a==n<;>rfl
theorem Kq (s:Sl Bs) (n:Bs):uD s n=s.l.contains n:=by
 rw [<- Kp];unfold uD;simp only [on];cases nV n s.l<;>rfl
theorem SU (t:ax):xH t=some (Bp t):=by
 unfold xH Bp;cases h:t.av.l with
 | nil=>rfl
 | cons a r =>
  cases h2:decide (((((a::r:List Int)).length:Nat):Int)=(1:Int))
  ·rfl
  ·rfl
theorem Ff (d:an) (own:Bs):∀(l:List az) (s:Sl Bs),s.l.length+l.length<=1000000000->∃nl,mC d own l s=some ⟨nl,jx d l own s.l⟩
 | [],s,_=>⟨s.nl,by rw [mC]; rfl⟩
 | x::r,s,h=>by
  simp only [List.length_cons] at h;rw [mC];simp only [on,nc];rw [SU,oB];have e:(Bp x.aM&&(x.aM.aa==own||(bY d.aA.l x.aM.aa).2&&decide ((bY d.aA.l x.aM.aa).1.aj=5)))=gd d own x:=rfl;rw [e,Kq];have f:(gd d own x&&!(bif gd d own x then s.l.contains x.aM.aa else false))=(gd d own x&&!s.l.contains x.aM.aa):=by cases gd d own x<;>rfl
  rw [f];have g:jx d (x::r) own s.l=jx d r own (oH d own s.l x):=rfl;rw [g];cases b:gd d own x&&!s.l.contains x.aM.aa
  ·have hn:oH d own s.l x=s.l:=by unfold oH; rw [b]; rfl
   rw [hn];exact Ff d own r s (by omega)
  ·have hn:oH d own s.l x=s.l++[x.aM.aa]:=by unfold oH; rw [b]; rfl
   rw [hn,cond_true,fU (by decide) (by simp; omega),oB,oB];exact Ff d own r ⟨_,s.l++[x.aM.aa]⟩ (by simp; omega)
theorem Kr (d:an) (t:ay) (own:Bs) (s:Sl Bs) (h:s.l.length+t.bG.l.length<=1000000000):∃nl,uE d t own s=some ⟨nl,jx d t.bG.l own s.l⟩:=by
 obtain⟨nl,e⟩:=Ff d own t.bG.l s h;rw [Qz];unfold AS;rw [e];exact⟨nl,rfl⟩
theorem SV {d:an}(hd:∀t∈d.aA.l,t.sz<=1048576) (n:Bs):(oC d n).length<=1048576:=by
 unfold oC;rcases Ba d.aA.l n with e|e
 ·rw [e]; exact Nat.zero_le _
 ·have h1:=hd _ e;have h2:=(bY d.aA.l n).1.bH;have b:=Sl.gR (f:=az.sz) (bY d.aA.l n).1.bG az.pos;omega
open Classical in
theorem Ks {d:an}(hd:∀t∈d.aA.l,t.sz<=1048576) (hl:d.aA.l.length<=1048576) (t:ay):∀(n i:Nat) (s:Sl Bs),lW d t.aa t.bG.l i s.l->d.aA.l.length+2<i+n->uF d t n s i=some (decide (qI d t.aa t.bG.l t.aa))
 | 0,i,s,hw,h=>by have:=hw.len; have:=hw.le; omega
 | n+1,i,s,hw,h=>by
  have hlen:=hw.len;rw [uF];by_cases hi:i<s.l.length
  ·rw [dT (by omega:((i:Nat):Int)<((s.l.length:Nat):Int)),cond_true,List.getElem?_eq_getElem hi,oB,Jl,oB,nc];have b:=SV hd s.l[i];obtain⟨nl,e⟩:=Kr d (bY d.aA.l s.l[i]).1 t.aa s (by unfold oC at b; omega);rw [e,oB];exact Ks hd hl t n (i+1) ⟨nl,_⟩ (hw.step hi) (by omega)
  ·rw [dF (by omega:¬((i:Nat):Int)<((s.l.length:Nat):Int)),cond_false];unfold AT;rw [Qx,oB,Kq,hw.end (by omega)]
open Classical in
theorem SX {d:an}(hd:∀t∈d.aA.l,t.sz<=1048576) (hl:d.aA.l.length<=1048576){t:ay}(ht:t.sz<=1048576):xI d t=some (decide (t.aj=5)&&oE d t):=by
 unfold xI oE;cases decide (t.aj=5)
 ·rfl
 ·have h2:=t.bH;have b:=Sl.gR (f:=az.sz) t.bG az.pos;obtain⟨nl,e⟩:=Kr d t t.aa (Sl.nil:Sl Bs) (by show 0+_<=_; omega);rw [Bool.not_true,cond_false,e,oB,Bool.true_and];exact Ks hd hl t F0 0 ⟨nl,_⟩ (lW.start d t.aa t.bG.l) (by rw [ep]; omega)
theorem SY (t:ay):AO t=yz t:=rfl
theorem SZ {d:an}(hd:∀t∈d.aA.l,t.sz<=1048576) (hl:d.aA.l.length<=1048576){t:ay}(ht:t.sz<=1048576) (b:Bool):∃nl,uH d t b=some ⟨nl,(cw (!gj t.aa) 6 t.aa++cw b 7 t.aa)++(cw (yz t) 8 t.aa++(cw (vb t) 9 t.aa++cw (decide (t.aj=(5:Int))&&oE d t) 5 t.aa))⟩:=by
 unfold uH;obtain⟨k,m⟩:=Br t.aa false b t.aa;rw [Qt,m,oB,Qv,oB,SY,Bool.false_or];have len:∀b e,(cw b e t.aa).length<=1:=fun b e=>by cases b<;>simp [cw]
 have q:=len (!gj t.aa) 6; have r:=len b 7;have f:∀u:Sl Z9,xJ u=some u:=fun _=>rfl;have g:∀u:Sl Z9,u.l.length<=10->∃nl,pY d t u=some ⟨nl,u.l++cw (decide (t.aj=(5:Int))&&oE d t) 5 t.aa⟩:=fun u hu=>by
  unfold pY;rw [SX hd hl ht,oB];cases decide (t.aj=(5:Int))&&oE d t
  ·exact⟨u.nl,by simp [cw,f]⟩
  ·rw [cond_true,kP (by simp; omega),oB,f]; exact⟨_,rfl⟩
 have j:∀u:Sl Z9,u.l.length<=8->∃nl,uG d t u=some ⟨nl,u.l++(cw (vb t) 9 t.aa++cw (decide (t.aj=(5:Int))&&oE d t) 5 t.aa)⟩:=fun u hu=>by
  unfold uG;have hk:∀c,c=vb t->∃nl,(bif c then((bq 24 u (⟨false,[(Z9.mk 9 t.aa)]⟩:Sl Z9)).bind fun p=>pY d t p) else(pY d t u))=some ⟨nl,u.l++(cw (vb t) 9 t.aa++cw (decide (t.aj=(5:Int))&&oE d t) 5 t.aa)⟩:=by
   intro c hc;rw [<- hc];cases c
   ·obtain⟨nl,e⟩:=g u (by omega);exact⟨nl,by rw [cond_false,e]; simp [cw]⟩
   ·obtain⟨nl,e⟩:=g ⟨_,u.l++[Z9.mk 9 t.aa]⟩ (by simp; omega);rw [cond_true,kP (by simp; omega),oB,e];exact⟨nl,by simp [cw]⟩
  exact hk _ rfl
 cases yz t
 ·obtain⟨nl,e⟩:=j ⟨k,cw (!gj t.aa) 6 t.aa++cw b 7 t.aa⟩ (by simp; omega);exact⟨nl,by rw [cond_false,e]; simp [cw]⟩
 ·obtain⟨nl,e⟩:=j ⟨_,(cw (!gj t.aa) 6 t.aa++cw b 7 t.aa)++[Z9.mk 8 t.aa]⟩ (by simp; omega);rw [cond_true,kP (by simp; omega),oB,e];exact⟨nl,by simp [cw]⟩
theorem Fg {d:an}(x:ay){i:Nat}(hi:i<=d.aA.l.length) (hl:d.aA.l.length<=1048576):∀(n k:Nat) (b:Bool),k<=i->i<k+n->uI d (i:Int) x n b (k:Int)=uH d x (b||((d.aA.l.drop k).take (i-k)).any fun y=>y.aa==x.aa)
 | 0,k,b,h1,h2=>by omega
 | n+1,k,b,h1,h2=>by
  rw [uI];by_cases hk:k<i
  ·rw [dT (by omega:((k:Nat):Int)<((i:Nat):Int)),cond_true];have f:k<d.aA.l.length:=by omega
   have hx:dc d.aA.l (k:Int)=some d.aA.l[k]:=by unfold dc; rw [if_pos (by simp),Int.toNat_natCast,List.getElem?_eq_getElem f]
   have g:cV (k:Int) 1=some ((k+1:Nat):Int):=by rw [fq (by omega)]; rfl
   obtain⟨m,hm⟩:∃m,i-k=m+1:=⟨i-k-1,by omega⟩;rw [hx,hm,List.drop_eq_getElem_cons f,List.take_succ_cons,List.any_cons];cases b
   ·simp only [a_,Bool.not_false,if_true,oB,Bool.false_or,g];rw [Fg x hi hl n (k+1) _ (by omega) (by omega),show i-(k+1)=m by omega]
   ·simp only [a_,Bool.not_true,Bool.false_eq_true,if_false,oB,Bool.true_or,g];rw [Fg x hi hl n (k+1) _ (by omega) (by omega),Bool.true_or]
  ·have:i-k=0:=by omega
   rw [dF (by omega:¬((k:Nat):Int)<((i:Nat):Int)),cond_false,this,List.take_zero,List.any_nil,Bool.or_false]
theorem S0 {d:an}(hd:∀t∈d.aA.l,t.sz<=1048576) (hl:d.aA.l.length<=1048576){t:ay}{i:Nat}(ht:d.aA.l[i]?=some t):∃nl,Eh d (i:Int)=some ⟨nl,sV d ((d.aA.l.take i).map ay.aa) t⟩:=by
 have hi:=(List.getElem?_eq_some_iff.1 ht).1;have hx:dc d.aA.l (i:Int)=some t:=by unfold dc; rw [if_pos (by simp),Int.toNat_natCast,ht]
 unfold Eh AU;rw [hx,oB,Qo,oB,show (0:Int)=((0:Nat):Int) from rfl,Fg t (by omega) hl F0 0 _ (Nat.zero_le _) (by rw [ep]; omega),List.drop_zero,Nat.sub_zero,<- vc,Bool.or_comm];exact SZ hd hl (hd t (List.mem_of_getElem? ht)) _
theorem S1 {d:an}{t:ay}(ht:t.sz<=1048576) (u:Sl Z9) (h:u.l.length+(sU d t).length<=10000000000) :
  ∃nl,(bif (bif (decide (t.aj=(1:Int))) then((decide (t.aj=(1:Int)))) else((decide (t.aj=(2:Int))))) then((xK d t).bind fun m=>(bq 24 u m).bind fun p=>some p) else(bif (decide (t.aj=(4:Int))) then((xL t).bind fun q=>(bq 24 u q).bind fun r=>some r) else(bif (decide (t.aj=(5:Int))) then((cC t.aa ([46]:Bs)).bind fun s=>(pZ d t.bG s ([]:Bs)).bind fun v=>(bq 24 u v).bind fun w=>some w) else(some u))))=some ⟨nl,u.l++sU d t⟩:=by
 have B:=t.bH;have hn:Bs.sz t.aa=t.aa.length+1:=rfl;have j:∀{x:az},x.sz<=1048576->x.aa.length<=1048576:=fun {x} h=>by have:=x.bH; have:Bs.sz x.aa=x.aa.length+1:=rfl; omega
 unfold sU at h ⊢
 revert h
 cases (bif (decide (t.aj=(1:Int))) then((decide (t.aj=(1:Int)))) else((decide (t.aj=(2:Int)))))
 ·simp only [cond_false];cases decide (t.aj=(4:Int))
  ·simp only [cond_false];cases decide (t.aj=(5:Int))
   ·intro h; exact⟨u.nl,by simp⟩
   ·simp only [cond_true];intro h;rw [eY (by simp; omega),oB];obtain⟨k,g⟩:=Km (d:=d) t.bG (a:=t.aa++[46]) (b:=[]) (by simp; omega) (by simp) (fun x hx=>j (by have:=Sl.dh (f:=az.sz) hx; omega)) (by omega);rw [g,oB,kP (by simp only; omega)]; exact⟨_,rfl⟩
  ·simp only [cond_true];intro h;obtain⟨k,g⟩:=Ko (t:=t) (by omega) t.bV.l 0 (Sl.nil:Sl Z9) rfl (fun x hx=>by have:=Sl.dh (f:=bC.sz) hx; have:=x.bH; have:Bs.sz x.aa=x.aa.length+1:=rfl; omega) (by show 0+_<=_; simp only [List.take_zero,List.map_nil]; omega);unfold xL;rw [g];simp only [oB,on,Sl.nil,List.nil_append,List.take_zero,List.map_nil];rw [kP (by simp only; omega)]; exact⟨_,rfl⟩
 ·simp only [cond_true];intro h;obtain⟨k,g⟩:=Kn (d:=d) (t:=t) (by omega) t.bA.l 0 (Sl.nil:Sl Z9) rfl (fun x hx=>by
   have h1:=Sl.dh (f:=aT.sz) hx; have h2:=x.bH; have:Bs.sz x.aa=x.aa.length+1:=rfl;exact⟨by omega,fun y z=>j (by have:=Sl.dh (f:=az.sz) z; omega)⟩) (by show 0+_<=_; simp only [List.take_zero,List.map_nil]; omega)
  unfold xK;rw [g];simp only [oB,on,Sl.nil,List.nil_append,List.take_zero,List.map_nil];rw [kP (by simp only; omega)]; exact⟨_,rfl⟩
theorem Kt {d:an}(hd:∀t∈d.aA.l,t.sz<=1048576) (hl:d.aA.l.length<=1048576):∀(l:List ay) (i:Nat) (s:Sl Z9),d.aA.l.drop i=l->s.l.length+(oG d ((d.aA.l.take i).map ay.aa) l).length<=10000000000->∃nl,mG d l i s=some ⟨nl,s.l++oG d ((d.aA.l.take i).map ay.aa) l⟩
 | [],i,s,_,_=>⟨s.nl,by rw [mG]; simp [oG]⟩
 | t::r,i,s,b,h=>by
  obtain⟨t1,t2⟩:=qD b;rw [oG] at h ⊢;simp only [List.length_append] at h;rw [mG];simp only [on];obtain⟨p,f⟩:=S0 hd hl t2;rw [f,oB,kP (by simp only; omega),oB];obtain⟨g,j⟩:=S1 (d:=d) (hd t (List.mem_of_getElem? t2)) ⟨s.nl&&(sV d ((d.aA.l.take i).map ay.aa) t).isEmpty,s.l++sV d ((d.aA.l.take i).map ay.aa) t⟩ (by simp only [List.length_append]; omega)
  rw [j,oB];have ht:(d.aA.l.take (i+1)).map ay.aa=(d.aA.l.take i).map ay.aa++[t.aa]:=by rw [ve b,List.map_append]; rfl
  obtain⟨k,m⟩:=Kt hd hl r (i+1) ⟨g,(s.l++sV d ((d.aA.l.take i).map ay.aa) t)++sU d t⟩ t1 (by rw [ht]; simp only [List.length_append]; omega);rw [m,ht];exact⟨k,by simp only [List.append_assoc]⟩
theorem S3 {d:an}(hd:∀t∈d.aA.l,t.sz<=1048576) (hl:d.aA.l.length<=1048576) (b:Bool) (h:(sW d b).length<=9000000):∃nl,xM d b=some ⟨nl,sW d b⟩:=by
 unfold sW at h ⊢;simp only [List.length_append] at h;obtain⟨f,g⟩:=Kt hd hl d.aA.l 0 (Sl.nil:Sl Z9) rfl (by show 0+_<=_; simp only [List.take_zero,List.map_nil]; omega);unfold xM;rw [g];simp only [oB,on,nc,Sl.nil,List.nil_append,List.take_zero,List.map_nil];obtain⟨j,k⟩:=yA ⟨f,oG d [] d.aA.l⟩ (b&&!(bY d.aA.l ([81,117,101,114,121]:Bs)).2) 30 ([81,117,101,114,121]:Bs) (by simp only; omega)
 rw [k];exact⟨j,rfl⟩
end Go.Proofs
namespace Go.Proofs
open Go Go.Ab
theorem Ku (b:Sl Int):∀(l:List Int) (s:Nat),l.length+s=b.l.length->lS b l s=some (if l=b.l.drop s then Sum.inl () else Sum.inr false)
 | [],s,h=>by
  rw [lS,if_pos];rw [List.drop_eq_nil_of_le]; simp at h; omega
 | x::r,s,h=>by
  simp only [List.length_cons] at h;have f:s<b.l.length:=by omega
  have hg:=List.getElem?_eq_getElem f;rw [lS];simp only [on];rw [hg,oB,Ku b r (s+1) (by omega),Q.gP hg];generalize b.l[s]=y;generalize b.l.drop (s+1)=t;by_cases e:x=y
  ·subst e; simp only [decide_true,Bool.not_true,cond_false,List.cons.injEq,true_and]
  ·simp [e]
theorem Fh (a b:Sl Int):oz a b=some (decide (a.l=b.l)):=by
 unfold oz;by_cases h:a.l.length=b.l.length
 ·rw [show decide ((a.l.length:Int)=(b.l.length:Int))=true from dT (by omega)];simp only [Bool.not_true,cond_false];rw [Ku b a.l 0 (by omega),List.drop_zero];by_cases e:a.l=b.l<;>simp [e,on]
 ·rw [show decide ((a.l.length:Int)=(b.l.length:Int))=false from dF (by omega)];have:a.l≠b.l:=fun e=>h (by rw [e]);simp [this]
theorem Fi (t:ax):iD t=fz t.av.l:=by
 unfold iD fz on;cases t.av.l with
 | nil=>rfl
 | cons a r=>simp; by_cases h:a=1<;>simp [h]
theorem Kv {t:ax}(h:t.av.l.length<=1048576) (h1:1<=t.av.l.length):p8 t=some ⟨t.aa,⟨false,t.av.l.drop 1⟩⟩:=by
 unfold p8;rw [AH h1,oB,fU (by decide) (by simp; omega)];simp
theorem Bt {t:ax}(h:t.av.l.length<=1048576):lI t=some ⟨t.aa,⟨false,(cQ t.av).l⟩⟩:=by
 unfold lI cQ;simp only [on,Fi];cases hn:fz t.av.l
 ·simp only [cond_false];rw [fU (by decide) (by simp; omega)];simp
 ·simp only [cond_true];rw [Kv h (ET hn)]; rfl
theorem Fj (s:Sl Int):(cQ s).l.length<=s.l.length:=by unfold cQ; cases fz s.l<;>simp
theorem S4 {t:ax}(h:t.av.l.length<=1048576):uK t=some (eZ (cQ t.av).l):=by
 unfold uK;rw [Bt h];simp only [oB,on,eZ];cases (cQ t.av).l with
 | nil=>rfl
 | cons a r=>simp; by_cases h:a=2<;>simp [h]
theorem Kw {t:ax}(h:t.av.l.length<=1048576):mM t=some (bif eZ (cQ t.av).l then(⟨t.aa,⟨false,(cQ t.av).l.drop 1⟩⟩,true) else(⟨[],Sl.nil⟩,false)):=by
 unfold mM;rw [S4 h];simp only [oB];cases hl:eZ (cQ t.av).l with
 | false=>rfl
 | true =>
  simp only [Bool.not_true,cond_false,cond_true];rw [Bt h,oB,Kv (by have:=Fj t.av; simp only; omega) (A_ hl)];rfl
def sY (d:an) (a n:Bs):Bool :=
 (bY d.aA.l n).2&&(decide ((bY d.aA.l n).1.aj=1)&&((decide ((bY d.aA.l a).1.aj=1)&&n==a)||((decide ((bY d.aA.l a).1.aj=2)&&(bY d.aA.l n).1.cN.l.contains a)||(decide ((bY d.aA.l a).1.aj=3)&&(bY d.aA.l a).1.bV.l.any fun y=>y.aa==n))))
theorem Ky (n:Bs):∀l:List Bs,(match nX n l with|.inl _=>false|.inr e=>e)=l.contains n
 | []=>rfl
 | a::r=>by
  rw [nX,List.contains_cons,<- Ky n r,BEq.comm];simp only [on];cases a==n<;>rfl
theorem Fk (s:Sl Bs) (n:Bs):nY s n=s.l.contains n:=by
 rw [<- Ky];unfold nY;simp only [on];cases nX n s.l<;>rfl
theorem Kz (n:Bs):∀l:List bC,(match oI n l with|.inl _=>false|.inr e=>e)=l.any fun y=>y.aa==n
 | []=>rfl
 | a::r=>by
  rw [oI,List.any_cons,<- Kz n r];simp only [on];cases a.aa==n<;>rfl
theorem KA (t:ay) (n:Bs):sZ t n=t.bV.l.any fun y=>y.aa==n:=by
 rw [<- Kz];unfold sZ;simp only [on];cases oI n t.bV.l<;>rfl
theorem KB (d:an){i:Nat}(hi:i<d.aA.l.length) (hl:d.aA.l.length<=1048576):∀(n k:Nat),k<=i->i<k+n->vf d (i:Int) n (k:Int)=some (!((d.aA.l.drop k).take (i-k)).any fun y=>y.aa==d.aA.l[i].aa)
 | 0,k,h1,h2=>by omega
 | n+1,k,h1,h2=>by
  rw [vf];by_cases hk:k<i
  ·have b:k<d.aA.l.length:=by omega
   have hx:dc d.aA.l (k:Int)=some d.aA.l[k]:=by unfold dc; rw [if_pos (by simp),Int.toNat_natCast,List.getElem?_eq_getElem b]
   have f:dc d.aA.l (i:Int)=some d.aA.l[i]:=by unfold dc; rw [if_pos (by simp),Int.toNat_natCast,List.getElem?_eq_getElem hi]
   have g:cV (k:Int) 1=some ((k+1:Nat):Int):=by rw [fq (by omega)]; rfl
   obtain⟨m,hm⟩:∃m,i-k=m+1:=⟨i-k-1,by omega⟩;rw [dT (by omega:((k:Nat):Int)<((i:Nat):Int)),cond_true,hx,oB,f,oB,hm,List.drop_eq_getElem_cons b,List.take_succ_cons,List.any_cons];cases d.aA.l[k].aa==d.aA.l[i].aa
   ·rw [cond_false,g,oB,KB d hi hl n (k+1) (by omega) (by omega),show i-(k+1)=m by omega,Bool.false_or]
   ·rfl
  ·have:i-k=0:=by omega
   rw [dF (by omega:¬((k:Nat):Int)<((i:Nat):Int)),cond_false,this,List.take_zero,List.any_nil];rfl
theorem S5 (d:an){i:Nat}(hi:i<d.aA.l.length) (hl:d.aA.l.length<=1048576):Fl d (i:Int)=some (!(d.aA.l.take i).any fun y=>y.aa==d.aA.l[i].aa):=by
 unfold Fl Bu;rw [show (0:Int)=((0:Nat):Int) from rfl,KB d hi hl F0 0 (Nat.zero_le _) (by rw [ep]; omega),List.drop_zero,Nat.sub_zero]
def ng (a:Bs) (x o:ay):Bool:=(decide (x.aj=1)&&o.aa==a)||((decide (x.aj=2)&&o.cN.l.contains a)||(decide (x.aj=3)&&x.bV.l.any fun y=>y.aa==o.aa))
theorem Fm {d:an}(hl:d.aA.l.length<=1048576) (a:Bs) (x:ay×Bool) (hx:x.2=true):∀(l:List ay) (i:Nat) (s:Sl Bs),d.aA.l.drop i=l->s.l.length+l.length<=2097152 ->
  ∃r,iY d a x l i s=some r/\∀z,z∈r.l↔z∈s.l\/∃(j:Nat) (h:j<d.aA.l.length),i<=j/\d.aA.l[j].aj=1/\((d.aA.l.take j).any fun y=>y.aa==d.aA.l[j].aa)=false/\ng a x.1 d.aA.l[j]=true/\d.aA.l[j].aa=z
 | [],i,s,hd,_=>by
  refine⟨s,by rw [iY],fun z=>⟨.inl, ?_⟩⟩;rintro (h|⟨j,h,h1,_⟩)
  ·exact h
  ·have:=List.drop_eq_nil_iff.1 hd; omega
 | o::r,i,s,hd,v=>by
  simp only [List.length_cons] at v;obtain⟨p,b⟩:=qD hd;obtain⟨hi,b⟩:=List.getElem?_eq_some_iff.1 b
  -- what is left when this one does not count
  have skip:(¬(o.aj=1/\((d.aA.l.take i).any fun y=>y.aa==o.aa)=false/\ng a x.1 o=true))->∃q,iY d a x r (i+1) s=some q/\∀z,z∈q.l↔z∈s.l\/∃(j:Nat) (h:j<d.aA.l.length),i<=j/\d.aA.l[j].aj=1/\((d.aA.l.take j).any fun y=>y.aa==d.aA.l[j].aa)=false/\ng a x.1 d.aA.l[j]=true/\d.aA.l[j].aa=z:=fun w=>by
   obtain⟨q,e,hq⟩:=Fm hl a x hx r (i+1) s p (by omega);refine⟨q,e,fun z=>?_⟩;rw [hq z];constructor
   ·rintro (h|⟨j,h,h1,h2⟩)
    ·exact .inl h
    ·exact .inr ⟨j,h,by omega,h2⟩
   ·rintro (h|⟨j,h,h1,h2,f,g,k⟩)
    ·exact .inl h
    ·by_cases m:i=j
     ·subst m;rw [b] at h2 f g;exact absurd ⟨h2,f,g⟩ w
     ·exact .inr ⟨j,h,by omega,h2,f,g,k⟩
  have more:o.aj=1->((d.aA.l.take i).any fun y=>y.aa==o.aa)=false->ng a x.1 o=true->∃q,iY d a x r (i+1) ⟨s.nl&&List.isEmpty [o.aa],s.l++[o.aa]⟩=some q/\∀z,z∈q.l↔z∈s.l\/∃(j:Nat) (h:j<d.aA.l.length),i<=j/\d.aA.l[j].aj=1/\((d.aA.l.take j).any fun y=>y.aa==d.aA.l[j].aa)=false/\ng a x.1 d.aA.l[j]=true/\d.aA.l[j].aa=z:=fun B C E=>by
   obtain⟨q,e,hq⟩:=Fm hl a x hx r (i+1) ⟨s.nl&&List.isEmpty [o.aa],s.l++[o.aa]⟩ p (by simp; omega);refine⟨q,e,fun z=>?_⟩;rw [hq z];simp only [List.mem_append,List.mem_singleton];constructor
   ·rintro ((h|h)|⟨j,h,h1,h2⟩)
    ·exact .inl h
    ·exact .inr ⟨i,hi,Nat.le_refl _,by rw [b]; exact B,by rw [b]; exact C,by rw [b]; exact E,by rw [b]; exact h.symm⟩
    ·exact .inr ⟨j,h,by omega,h2⟩
   ·rintro (h|⟨j,h,h1,h2,f,g,k⟩)
    ·exact .inl (.inl h)
    ·by_cases m:i=j
     ·subst m;rw [b] at k;exact .inl (.inr k.symm)
     ·exact .inr ⟨j,h,by omega,h2,f,g,k⟩
  rw [iY,hx,cond_true];simp only [on];have t:=S5 d hi hl;rw [b] at t;by_cases hk:o.aj=1
  ·rw [dT hk,t];simp only [Bool.not_true,Bool.not_false,a_,if_true,oB,Bool.false_or];cases u:(d.aA.l.take i).any fun y=>y.aa==o.aa
   ·simp only [Bool.not_false,Bool.not_true,cond_false];have F:(((decide (x.1.aj=(1:Int)))&&((o.aa==a)))||((decide (x.1.aj=(2:Int)))&&(bif (!((decide (x.1.aj=(1:Int)))&&((o.aa==a)))&&(decide (x.1.aj=(2:Int)))) then nY o.cN a else false))||((decide (x.1.aj=(3:Int)))&&(bif (!(((decide (x.1.aj=(1:Int)))&&((o.aa==a)))||((decide (x.1.aj=(2:Int)))&&(bif (!((decide (x.1.aj=(1:Int)))&&((o.aa==a)))&&(decide (x.1.aj=(2:Int)))) then nY o.cN a else false)))&&(decide (x.1.aj=(3:Int)))) then sZ x.1 o.aa else false)))=ng a x.1 o:=by
     unfold ng;rw [Fk,KA];cases decide (x.1.aj=(1:Int))<;>cases (o.aa==a)<;>cases decide (x.1.aj=(2:Int))<;>cases decide (x.1.aj=(3:Int))<;>cases o.cN.l.contains a<;>rfl
    rw [F];cases hc:ng a x.1 o
    ·rw [cond_false,oB];exact skip fun h=>by rw [hc] at h; exact absurd h.2.2 (by simp)
    ·rw [cond_true,fU (by decide) (by simp; omega),oB,oB];exact more hk u hc
   ·simp only [Bool.not_true,cond_true,Bool.not_false,oB];exact skip fun h=>by rw [u] at h; exact absurd h.2.1 (by simp)
  ·rw [dF hk];simp only [Bool.not_false,Bool.not_true,a_,Bool.false_eq_true,if_false,Bool.true_or,cond_true,oB];exact skip fun h=>hk h.1
theorem S6 {l:List ay}{j:Nat}(h:j<l.length) (b:((l.take j).any fun y=>y.aa==l[j].aa)=false):bY l l[j].aa=(l[j],true):=by
 have:l.find? (fun t=>t.aa==l[j].aa)=some l[j]:=by
  rw [List.find?_eq_some_iff_getElem];refine⟨by simp,j,h,rfl,fun k hk=>?_⟩;rw [List.any_eq_false] at b;have h2:k<(l.take j).length:=by simp; omega
  have:=b (l.take j)[k] (List.getElem_mem h2);rw [List.getElem_take] at this
  simpa using this
 unfold bY;rw [this]
theorem S7 {l:List ay}{z:Bs}(h:(bY l z).2=true):∃(j:Nat) (b:j<l.length),l[j]=(bY l z).1/\((l.take j).any fun y=>y.aa==l[j].aa)=false:=by
 have hn:=Bq h;unfold bY at h hn ⊢;cases e:l.find? (fun t=>t.aa==z) with
 | none=>rw [e] at h; cases h
 | some t =>
  rw [e] at hn;obtain⟨_,j,b,h1,h2⟩:=List.find?_eq_some_iff_getElem.1 e;refine⟨j,b,h1, ?_⟩;rw [List.any_eq_false];intro y f;obtain⟨k,hk,rfl⟩:=List.getElem_of_mem f;have g:k<j:=by simp at hk; omega
  rw [List.getElem_take,h1];have hn:t.aa=z:=hn;rw [hn]
  simpa using h2 k g
theorem S8 {d:an}(hl:d.aA.l.length<=1048576) (a:Bs):∃r,yB d a=some r/\∀z,z∈r.l↔sY d a z=true:=by
 unfold yB;simp only [on,nc];cases f:(bY d.aA.l a).2
 ·have h0:∀(l:List ay) (i:Nat) (s:Sl Bs),iY d a (bY d.aA.l a) l i s=some s:=fun l i s=>by
   cases l with
   | nil=>rw [iY]
   | cons o r=>rw [iY,f]; rfl
  rw [h0];refine⟨_,rfl,fun z=>?_⟩;unfold sY;rw [Fc f];simp [Sl.nil,ay.zero]
 ·obtain⟨r,e,hr⟩:=Fm hl a (bY d.aA.l a) f d.aA.l 0 (Sl.nil:Sl Bs) rfl (by show 0+_<=_; omega);rw [e];refine⟨r,rfl,fun z=>?_⟩;rw [hr z];constructor
  ·rintro (h|⟨j,h,_,h2,g,k,p⟩)
   ·cases h
   ·have b:=S6 h g;rw [p] at b;unfold sY;rw [b];unfold ng at k;rw [p] at k;simp only [h2,decide_true,Bool.true_and];exact k
  ·intro h;unfold sY at h;simp only [Bool.and_eq_true,decide_eq_true_eq] at h;obtain⟨h1,h2,g⟩:=h;obtain⟨j,b,m,q⟩:=S7 h1;refine .inr ⟨j,b,Nat.zero_le _,by rw [m]; exact h2,q, ?_,by rw [m]; exact Bq h1⟩;unfold ng;rw [m,Bq h1];exact g
theorem KC {d:an}(hl:d.aA.l.length<=1048576) (a b:Bs):s4 d a b=some (sY d b a):=by
 obtain⟨r,e,h⟩:=S8 hl b;unfold s4;rw [e,oB];simp only [on,Fk]
 congr 1
 rw [Bool.eq_iff_iff,List.contains_iff_mem];exact h a
def oK (a b:ax):Bool:=a.aa==b.aa&&decide (a.av.l=b.av.l)
theorem S9 (a b:ax):oK a b=oK b a:=by
 unfold oK;rw [Bool.eq_iff_iff];simp only [Bool.and_eq_true,beq_iff_eq,decide_eq_true_eq];exact⟨fun h=>⟨h.1.symm,h.2.symm⟩,fun h=>⟨h.1.symm,h.2.symm⟩⟩
theorem KE (a:Sl Int) (b:Sl Int):∀(l:List Int) (s:Nat),l.length+s=b.l.length->oL b l s=some (if l=b.l.drop s then Sum.inl () else Sum.inr false)
 | [],s,h=>by
  rw [oL,List.drop_of_length_le (by simp at h; omega)]; rfl
 | x::l,s,h=>by
  have f:s<b.l.length:=by simp at h; omega
  rw [oL];simp only [on];rw [List.getElem?_eq_getElem f,oB,List.drop_eq_getElem_cons f];by_cases e:x=b.l[s]
  ·rw [dT e,Bool.not_true,cond_false,KE a b l (s+1) (by simp at h; omega),e];by_cases hh:l=b.l.drop (s+1)
   ·rw [if_pos hh,if_pos (by rw [hh])]
   ·rw [if_neg hh,if_neg (fun h=>hh (List.cons.inj h).2)]
  ·rw [dF e,Bool.not_false,cond_true,if_neg (fun h=>e (List.cons.inj h).1)]
theorem S_ (a b:ax):yC a b=some (oK b a):=by
 rw [S9];have e:yD a.av b.av=some (decide (a.av.l=b.av.l)):=by
  unfold yD;by_cases h:a.av.l.length=b.av.l.length
  ·rw [dT (by omega),Bool.not_true,cond_false,KE a.av b.av a.av.l 0 (by omega),List.drop_zero];by_cases h2:a.av.l=b.av.l
   ·rw [if_pos h2,dT h2]; rfl
   ·rw [if_neg h2,dF h2]; rfl
  ·rw [dF (by omega),Bool.not_false,cond_true,dF (fun e=>h (by rw [e]))]
 unfold yC oK;rw [e];cases a.aa==b.aa<;>rfl
theorem Bv {d e:an}(hd:d.aA.l.length<=1048576) (he:e.aA.l.length<=1048576):∀(m:Nat) (a b:ax),a.av.l.length<=1048576->b.av.l.length<=1048576->sY e b.aa a.aa=sY d b.aa a.aa->a.av.l.length+b.av.l.length<m ->
  ∃v,kQ m d a b=some v/\kQ m e a b=some v
 | 0,_,_,_,_,_,h=>by omega
 | m+1,a,b,p,g,f,hm=>by
  rw [kQ,kQ];simp only [on,Fi,Bt p,Bt g,Kw p,Kw g,oB];have t:=Fj a.av;have u:=Fj b.av;cases r:fz b.av.l
  ·simp only [cond_false];cases j:fz a.av.l
   ·simp only [cond_false];have last:∃v,(a_ (!((a.aa==b.aa))) (s4 d a.aa b.aa) false fun k=>some (((a.aa==b.aa))||k))=some v/\(a_ (!((a.aa==b.aa))) (s4 e a.aa b.aa) false fun k=>some (((a.aa==b.aa))||k))=some v:=by
     rw [KC hd,KC he,f];cases (a.aa==b.aa)<;>exact⟨_,rfl,rfl⟩
    cases s:eZ (cQ a.av).l
    ·cases q:eZ (cQ b.av).l
     ·exact last
     ·exact⟨_,rfl,rfl⟩
    ·cases q:eZ (cQ b.av).l
     ·exact⟨_,rfl,rfl⟩
     ·have h1:=EV s;have h2:=EV q;have w:((cQ a.av).l.drop 1).length<a.av.l.length:=h1;have y:((cQ b.av).l.drop 1).length<b.av.l.length:=h2;obtain⟨v,hv,hw⟩:=Bv hd he m ⟨a.aa,⟨false,(cQ a.av).l.drop 1⟩⟩ ⟨b.aa,⟨false,(cQ b.av).l.drop 1⟩⟩ (by show ((cQ a.av).l.drop 1).length<=_; omega) (by show ((cQ b.av).l.drop 1).length<=_; omega) f (by show ((cQ a.av).l.drop 1).length+((cQ b.av).l.drop 1).length<m; omega)
      simp only [cond_true,Bool.or_self,Bool.and_self,a_,if_true,hv,hw,oB];exact⟨_,rfl,rfl⟩
   ·have h1:(cQ a.av).l.length<a.av.l.length:=E7 j;obtain⟨v,hv,hw⟩:=Bv hd he m ⟨a.aa,⟨false,(cQ a.av).l⟩⟩ b (by show (cQ a.av).l.length<=_; omega) g f (by show (cQ a.av).l.length+b.av.l.length<m; omega);simp only [cond_true,hv,hw];exact⟨_,rfl,rfl⟩
  ·simp only [cond_true];cases j:fz a.av.l
   ·exact⟨_,rfl,rfl⟩
   ·have h1:(cQ a.av).l.length<a.av.l.length:=E7 j;have h2:(cQ b.av).l.length<b.av.l.length:=E7 r;obtain⟨v,hv,hw⟩:=Bv hd he m ⟨a.aa,⟨false,(cQ a.av).l⟩⟩ ⟨b.aa,⟨false,(cQ b.av).l⟩⟩ (by show (cQ a.av).l.length<=_; omega) (by show (cQ b.av).l.length<=_; omega) f (by show (cQ a.av).l.length+(cQ b.av).l.length<m; omega);simp only [a_,if_true,hv,hw,oB]
    exact⟨_,rfl,rfl⟩
def oM (d:an) (a b:ax):Bool:=(Bw d a b).getD false
theorem Ta {d:an}(hd:d.aA.l.length<=1048576){a b:ax}(f:bX a.av) (g:bX b.av):Bw d a b=some (oM d a b):=by
 have h1:=f.2; have h2:=g.2;obtain⟨v,hv,hw⟩:=Bv hd hd F0 a b f.2 g.2 rfl (by rw [ep]; omega);have e:oM d a b=v:=by unfold oM Bw; rw [hv]; rfl
 rw [e]; exact hv
def iO (d:an) (n:Bs) (k:Int):Int:=bif !(bY d.aA.l n).2&&!fu n then 8 else bif !(bY d.aA.l n).2||!decide ((bY d.aA.l n).1.aj=k) then 9 else 0
def qK (p n:Bs) (b:Bool):List Z9:=cw b 22 (p++[40]++n++[41])
def vg (p:Bs) (y:aT) (l:List az):List Z9:=l.flatMap fun a=>qK p a.aa (!(eU y.aG.l a.aa).2||!oK a.aM (eU y.aG.l a.aa).1.aM)
def yE (p:Bs) (x:aT) (l:List az):List Z9:=l.flatMap fun b=>qK p b.aa ((!(eU x.aG.l b.aa).2&&fz b.aM.av.l)&&!b.eC)
def s5 (d:an) (t:ay) (x:aT):List Z9 :=
 bif !(eT t.bA.l x.aa).2 then [Z9.mk 20 (t.aa++[46]++x.aa)] else
  (cw (!oM d (eT t.bA.l x.aa).1.aM x.aM) 10 (t.aa++[46]++x.aa)++(vg (t.aa++[46]++x.aa) (eT t.bA.l x.aa).1 x.aG.l++yE (t.aa++[46]++x.aa) x (eT t.bA.l x.aa).1.aG.l))
def vh (d:an) (t:ay) (l:List aT):List Z9:=l.flatMap (s5 d t)
def iZ (d:an) (s:List Bs) (n:Bs) (k:Int):Int:=bif decide (iO d n k=0)&&s.contains n then 7 else iO d n k
def s7 (d:an) (t:ay):List Bs->List Bs->List Z9
 | _,[]=>[]
 | s,n::r=>(bif !decide (iZ d s n 2=0) then [Z9.mk (iZ d s n 2) t.aa] else vh d t (bY d.aA.l n).1.bA.l)++s7 d t (s++[n]) r
def vj (d:an) (t:ay):List Bs->List bC->List Z9
 | _,[]=>[]
 | s,m::r=>cw (!decide (iZ d s m.aa 1=0)) (iZ d s m.aa 1) (t.aa++[46]++m.aa)++vj d t (s++[m.aa]) r
def yF (d:an) (t:ay):List Z9:=bif decide (t.aj=1) then s7 d t [] t.cN.l else bif decide (t.aj=3) then vj d t [] t.bV.l else []
def vk (d:an):List Z9:=d.aA.l.flatMap (yF d)
def s9:Nat:=4000000000000
theorem KF {s r:Sl Z9}(h:s.l.length+r.l.length<=s9):bq 24 s r=some ⟨s.nl&&r.l.isEmpty,s.l++r.l⟩:=by
 unfold s9 at h;unfold bq; rw [if_pos]; unfold dI; omega
theorem KG (l:List aT) (s:Bs):(eT l s).1=aT.zero\/(eT l s).1∈l:=by
 unfold eT;cases h:l.find? (fun t=>t.aa==s) with
 | none=>exact .inl rfl
 | some t=>exact .inr (List.mem_of_find?_eq_some h)
def qL (f:aT):Prop:=f.aa.length<=1048576/\(∀a∈f.aG.l,a.aa.length<=1048576)/\bX f.aM.av
theorem Tb:qL aT.zero:=⟨Nat.zero_le _,fun _ h=>(by cases h),⟨fun _=>rfl,Nat.zero_le _⟩⟩
theorem Tc {l:List aT}(h:∀f∈l,qL f) (s:Bs):qL (eT l s).1:=by
 rcases KG l s with e|e
 ·rw [e]; exact Tb
 ·exact h _ e
def oN (t:ay):Prop:=t.aa.length<=1048576/\(∀f∈t.bA.l,qL f)/\∀m∈t.bV.l,m.aa.length<=1048576
theorem Td:oN ay.zero:=⟨Nat.zero_le _,fun _ h=>(by cases h),fun _ h=>(by cases h)⟩
theorem Te {d:an}(h:∀t∈d.aA.l,oN t) (s:Bs):oN (bY d.aA.l s).1:=by
 rcases Ba d.aA.l s with e|e
 ·rw [e]; exact Td
 ·exact h _ e
theorem Tf (s:Bs) (l:List az):lD s l=(match l.find? (fun t=>t.aa==s) with|some t=>Sum.inr (t,true)|none=>Sum.inl ()):=by
 induction l with
 | nil=>rfl
 | cons a r b =>
  rw [lD,List.find?_cons];simp only [on,b];cases a.aa==s<;>rfl
theorem KH (t:Sl az) (s:Bs):lE t s=eU t.l s:=by
 unfold lE eU on;rw [Tf];cases t.l.find? (fun t=>t.aa==s)<;>rfl
theorem Tg (s:Bs) (l:List aT):lG s l=(match l.find? (fun t=>t.aa==s) with|some t=>Sum.inr (t,true)|none=>Sum.inl ()):=by
 induction l with
 | nil=>rfl
 | cons a r b =>
  rw [lG,List.find?_cons];simp only [on,b];cases a.aa==s<;>rfl
theorem Th (t:ay) (s:Bs):p7 t s=eT t.bA.l s:=by
 unfold p7 eT on;rw [Tg];cases t.bA.l.find? (fun t=>t.aa==s)<;>rfl
def RF (o:Option (Sl Z9)) (s:Sl Z9) (X:List Z9):Prop:=s.l.length+X.length<=s9->∃nl,o=some ⟨nl,s.l++X⟩
theorem RF.pure (s:Sl Z9):RF (some s) s []:=fun _=>⟨s.nl,by simp⟩
theorem RF.bind {o:Option (Sl Z9)}{f:Sl Z9->Option (Sl Z9)}{s:Sl Z9}{X Y:List Z9}(h:RF o s X) (g:∀b,RF (f b) b Y):RF (o.bind f) s (X++Y):=fun j=>by
 simp only [List.length_append] at j;obtain⟨k,m⟩:=h (by omega);obtain⟨p,q⟩:=g ⟨k,s.l++X⟩ (by simp only [List.length_append]; omega);exact⟨p,by rw [m,oB,q]; simp only [List.append_assoc]⟩
theorem RF.id {o:Option (Sl Z9)}{s:Sl Z9}{X:List Z9}(h:RF o s X):RF (o.bind fun x=>some x) s X:=fun b=>by
 obtain⟨f,g⟩:=h b; exact⟨f,by rw [g]; rfl⟩
theorem Bx (s:Sl Z9) (e:Int) (at_:Bs):RF (bq 24 s (⟨false,[Z9.mk e at_]⟩:Sl Z9)) s [Z9.mk e at_]:=fun b=>⟨_,KF (by simpa using b)⟩
theorem Fo (s:Sl Z9){o:Option (Sl Z9)}{X:List Z9}(h:X.length<=s9->∃nl,o=some ⟨nl,X⟩):RF (o.bind fun x=>bq 24 s x) s X:=fun b=>by
 obtain⟨g,f⟩:=h (by omega);rw [f,oB,KF (by simpa using b)];exact⟨_,rfl⟩
theorem KI {p n:Bs}(l:p.length<=10000000) (hn:n.length<=1048576) (s:Sl Z9) (b:Bool):RF (bif b then((cC p ([40]:Bs)).bind fun f=>(cC f n).bind fun g=>(cC g ([41]:Bs)).bind fun j=>(bq 24 s (⟨false,[(Z9.mk 22 j)]⟩:Sl Z9)).bind fun k=>some k) else(some s)) s (qK p n b):=by
 cases b
 ·exact RF.pure s
 ·rw [cond_true,eY (by simp; omega),oB,eY (by simp; omega),oB,eY (by simp; omega),oB];exact(Bx s 22 _).id
theorem KJ {p:Bs}(b:p.length<=10000000) (y:aT×Bool):∀(l:List az) (s:Sl Z9),(∀a∈l,a.aa.length<=1048576)->RF (kR p y l s) s (vg p y.1 l)
 | [],s,_=>by rw [kR]; exact .pure s
 | a::r,s,h=>by
  rw [kR];simp only [on,KH,S_];have e:vg p y.1 (a::r)=qK p a.aa (!(eU y.1.aG.l a.aa).2||!oK a.aM (eU y.1.aG.l a.aa).1.aM)++vg p y.1 r:=rfl;rw [e];have key:∀v:Bool,(!(eU y.1.aG.l a.aa).2||!v)=(!(eU y.1.aG.l a.aa).2||!oK a.aM (eU y.1.aG.l a.aa).1.aM)->RF (Option.bind (bif ((!(eU y.1.aG.l a.aa).2)||(!v)) then((cC p ([40]:Bs)).bind fun f=>(cC f a.aa).bind fun g=>(cC g ([41]:Bs)).bind fun j=>(bq 24 s (⟨false,[(Z9.mk 22 j)]⟩:Sl Z9)).bind fun k=>some k) else(some s)) fun m=>kR p y r m) s (qK p a.aa (!(eU y.1.aG.l a.aa).2||!oK a.aM (eU y.1.aG.l a.aa).1.aM)++vg p y.1 r):=by
   intro v hv;rw [hv];exact RF.bind (KI b (h a (.head _)) s _) fun q=>KJ b y r q fun x hx=>h x (.tail _ hx)
  cases hk:(eU y.1.aG.l a.aa).2
  ·rw [hk] at key;exact key false rfl
  ·rw [hk] at key;exact key _ rfl
theorem KK (x:aT){p:Bs}(b:p.length<=10000000):∀(l:List az) (s:Sl Z9),(∀a∈l,a.aa.length<=1048576)->RF (kS x p l s) s (yE p x l)
 | [],s,_=>by rw [kS]; exact .pure s
 | a::r,s,h=>by
  rw [kS];simp only [on,KH,Fi];have e:yE p x (a::r)=qK p a.aa ((!(eU x.aG.l a.aa).2&&fz a.aM.av.l)&&!a.eC)++yE p x r:=rfl;have f:(((!(eU x.aG.l a.aa).2)&&(bif (!(eU x.aG.l a.aa).2) then fz (bif (!(eU x.aG.l a.aa).2) then a else az.zero).aM.av.l else false))&&(!(bif ((!(eU x.aG.l a.aa).2)&&(bif (!(eU x.aG.l a.aa).2) then fz (bif (!(eU x.aG.l a.aa).2) then a else az.zero).aM.av.l else false)) then a else az.zero).eC))=((!(eU x.aG.l a.aa).2&&fz a.aM.av.l)&&!a.eC):=by
   cases (eU x.aG.l a.aa).2
   ·simp only [Bool.not_false,Bool.true_and,cond_true];cases fz a.aM.av.l<;>rfl
   ·rfl
  rw [e,f];exact RF.bind (KI b (h a (.head _)) s _) fun g=>KK x b r g fun x hx=>h x (.tail _ hx)
theorem Ti {d:an}(hd:d.aA.l.length<=1048576){t:ay}(ht:t.aa.length<=1048576) (g:∀f∈t.bA.l,qL f){x:aT}(hx:qL x) (b:(s5 d t x).length<=s9):∃nl,qM d t x=some ⟨nl,s5 d t x⟩:=by
 obtain⟨u,j,k⟩:=hx;obtain⟨v,m,p⟩:=Tc g x.aa;unfold qM;simp only [on,Th];rw [eY (by simp; omega),oB,eY (by simp; omega),oB]
 revert b
 unfold s5;cases (eT t.bA.l x.aa).2
 ·exact fun _=>⟨false,rfl⟩
 ·simp only [Bool.not_true,cond_false];intro b;rw [(Ta hd p k),oB];have h1:RF (bif (!oM d (eT t.bA.l x.aa).1.aM x.aM) then((bq 24 (Sl.nil:Sl Z9) (⟨false,[(Z9.mk 10 (t.aa++[46]++x.aa))]⟩:Sl Z9)).bind fun q=>some q) else(some (Sl.nil:Sl Z9))) (Sl.nil:Sl Z9) (cw (!oM d (eT t.bA.l x.aa).1.aM x.aM) 10 (t.aa++[46]++x.aa)):=by
   cases oM d (eT t.bA.l x.aa).1.aM x.aM
   ·exact(Bx _ 10 _).id
   ·exact .pure _
  exact RF.bind h1 (fun r=>RF.bind (KJ (by simp; omega) _ _ r j) fun s=>(KK x (by simp; omega) _ s m).id) (by show 0+_<=_; omega)
theorem KL {d:an}(hd:d.aA.l.length<=1048576){t:ay}(ht:t.aa.length<=1048576) (j:∀f∈t.bA.l,qL f):∀(l:List aT) (s:Sl Z9),(∀f∈l,qL f)->RF (kT d t l s) s (vh d t l)
 | [],s,_=>by rw [kT]; exact .pure s
 | x::r,s,h=>by
  rw [kT];simp only [on];have e:vh d t (x::r)=s5 d t x++vh d t r:=rfl;have k:((qM d t x).bind fun b=>(bq 24 s b).bind fun g=>kT d t r g)=((qM d t x).bind fun b=>bq 24 s b).bind fun g=>kT d t r g:=by
   cases qM d t x<;>rfl
  rw [e,k];exact RF.bind (Fo s (Ti hd ht j (h x (.head _)))) fun m=>KL hd ht j r m fun f p=>h f (.tail _ p)
theorem KM (d:an) (n:Bs) (k:Int) (hk:k≠0):uJ d n k=iO d n k:=by
 unfold uJ iO;simp only [on,nc];cases b:(bY d.aA.l n).2
 ·rw [Fc b];have:decide (ay.zero.aj=k)=false:=dF fun e=>hk e.symm;rw [this];cases fu n<;>rfl
 ·cases fu n<;>rfl
theorem KN {d:an}(hd:d.aA.l.length<=1048576) (hk:∀t∈d.aA.l,oN t){t:ay}(ht:oN t):∀(l:List Bs) (i:Nat) (s:Sl Z9),t.cN.l.drop i=l->RF (lX d t l i s) s (s7 d t (t.cN.l.take i) l)
 | [],i,s,_=>by rw [lX]; exact .pure s
 | n::r,i,s,b=>by
  rw [lX,s7];simp only [on,KM d n 2 (by decide),Fk,nc];have e:(bif ((decide (iO d n 2=(0:Int)))&&(bif (decide (iO d n 2=(0:Int))) then(bif (decide (iO d n 2=(0:Int))) then(⟨t.cN.nl,t.cN.l.take i⟩:Sl Bs) else(Sl.nil:Sl Bs)).l.contains (bif (decide (iO d n 2=(0:Int))) then n else([]:Bs)) else false)) then((7:Int)) else(iO d n 2))=iZ d (t.cN.l.take i) n 2:=by
   unfold iZ;cases decide (iO d n 2=(0:Int))<;>rfl
  rw [e,<- ve b];refine RF.bind ?_ fun f=>KN hd hk ht r (i+1) f (qD b).1;cases decide (iZ d (t.cN.l.take i) n 2=0)
  ·exact(Bx s _ _).id
  ·simp only [Bool.not_true,cond_false];exact(KL hd ht.1 ht.2.1 _ s (Te hk n).2.1).id
theorem KO {d:an}{t:ay}(ht:oN t):∀(l:List bC) (i:Nat) (s:Sl Z9),t.bV.l.drop i=l->(∀m∈l,m.aa.length<=1048576)->RF (lY d t l i s) s (vj d t ((t.bV.l.take i).map bC.aa) l)
 | [],i,s,_,_=>by rw [lY]; exact .pure s
 | m::r,i,s,b,hm=>by
  have h1:=ht.1; have h2:=hm m (.head _);rw [lY,vj];simp only [on,KM d m.aa 1 (by decide),KA,<- vc];have e:(bif ((decide (iO d m.aa 1=(0:Int)))&&(bif (decide (iO d m.aa 1=(0:Int))) then((bif (decide (iO d m.aa 1=(0:Int))) then(⟨t.bV.nl,t.bV.l.take i⟩:Sl bC) else(Sl.nil:Sl bC)).l.map bC.aa).contains m.aa else false)) then((7:Int)) else(iO d m.aa 1))=iZ d ((t.bV.l.take i).map bC.aa) m.aa 1:=by
   unfold iZ;cases decide (iO d m.aa 1=(0:Int))<;>rfl
  have f:(t.bV.l.take (i+1)).map bC.aa=(t.bV.l.take i).map bC.aa++[m.aa]:=by rw [ve b,List.map_append]; rfl
  rw [e,<- f];refine RF.bind ?_ fun g=>KO ht r (i+1) g (qD b).1 fun x hx=>hm x (.tail _ hx);cases decide (iZ d ((t.bV.l.take i).map bC.aa) m.aa 1=0)
  ·simp only [Bool.not_false,cond_true];rw [eY (by simp; omega),oB,eY (by simp; omega),oB];exact(Bx s _ _).id
  ·exact .pure s
theorem KP {d:an}(hd:d.aA.l.length<=1048576) (hk:∀t∈d.aA.l,oN t):∀(l:List ay) (s:Sl Z9),(∀t∈l,t∈d.aA.l)->RF (nh d l s) s (l.flatMap (yF d))
 | [],s,_=>by rw [nh]; exact .pure s
 | t::r,s,hm=>by
  have ht:=hk t (hm t (.head _));rw [nh,List.flatMap_cons];simp only [on];refine RF.bind ?_ fun g=>KP hd hk r g fun x hx=>hm x (.tail _ hx);have f:∀o:Option (Sl Z9),(o.bind fun b=>(bq 24 s b).bind fun j=>some j)=(o.bind fun b=>bq 24 s b).bind fun x=>some x:=fun o=>by cases o<;>rfl
  unfold yF;cases decide (t.aj=(1:Int))
  ·simp only [cond_false];cases decide (t.aj=(3:Int))
   ·exact .pure s
   ·simp only [cond_true];rw [f];refine(Fo s fun k=>?_).id;obtain⟨nl,e⟩:=KO (d:=d) ht t.bV.l 0 (Sl.nil:Sl Z9) rfl ht.2.2 (by show 0+_<=_; simp only [List.take_zero,List.map_nil]; omega);unfold By;rw [e];exact⟨nl,rfl⟩
  ·simp only [cond_true];rw [f];refine(Fo s fun k=>?_).id;obtain⟨nl,e⟩:=KN hd hk ht t.cN.l 0 (Sl.nil:Sl Z9) rfl (by show 0+_<=_; simp only [List.take_zero]; omega);unfold Bz;rw [e];exact⟨nl,rfl⟩
theorem Tj {d:an}(hd:d.aA.l.length<=1048576) (hk:∀t∈d.aA.l,oN t) (b:(vk d).length<=s9):∃nl,yG d=some ⟨nl,vk d⟩:=by
 obtain⟨nl,e⟩:=KP hd hk d.aA.l (Sl.nil:Sl Z9) (fun _ h=>h) (by show 0+_<=_; unfold vk at b; omega);unfold yG;rw [e];exact⟨nl,rfl⟩
theorem KQ (p n:Bs) (b:Bool):(qK p n b).length<=1:=by unfold qK cw; cases b<;>simp
theorem yH {α β:Type}{f:α->List β}{g:α->Nat}(h:∀x,(f x).length<=g x):∀l:List α,(l.flatMap f).length<=(l.map g).sum
 | []=>Nat.le_refl _
 | a::r=>by
  rw [List.flatMap_cons,List.length_append,List.map_cons,List.sum_cons];have:=h a; have:=yH h r; omega
theorem Tm {α:Type}(l:List α):(l.map fun _=>1).sum=l.length:=by
 induction l with
 | nil=>rfl
 | cons a r b=>simp only [List.map_cons,List.sum_cons,List.length_cons,b]; omega
theorem KR (p:Bs) (y:aT) (l:List az):(vg p y l).length<=l.length/\(yE p y l).length<=l.length:=by
 rw [<- Tm l];exact⟨yH (fun _=>KQ _ _ _) l,yH (fun _=>KQ _ _ _) l⟩
theorem KS (f:aT):f.aG.l.length+1<=f.sz:=by
 have:=f.bH; have:=Sl.gR (f:=az.sz) f.aG az.pos; omega
theorem Tn {t:ay}(n:Bs):(eT t.bA.l n).1.aG.l.length<=t.sz:=by
 rcases KG t.bA.l n with e|e
 ·rw [e]; exact Nat.zero_le _
 ·have:=KS (eT t.bA.l n).1; have:=Sl.dh (f:=aT.sz) e; have:=t.bH; omega
theorem To (d:an) (t:ay) (x:aT):(s5 d t x).length<=x.sz+t.sz:=by
 have h1:=KS x;unfold s5;cases (eT t.bA.l x.aa).2
 ·simp only [Bool.not_false,cond_true,List.length_cons,List.length_nil]; omega
 ·simp only [Bool.not_true,cond_false,List.length_append];have h2:=(KR (t.aa++[46]++x.aa) (eT t.bA.l x.aa).1 x.aG.l).1;have b:=(KR (t.aa++[46]++x.aa) x (eT t.bA.l x.aa).1.aG.l).2;have f:=Tn (t:=t) x.aa;have g:(cw (!oM d (eT t.bA.l x.aa).1.aM x.aM) 10 (t.aa++[46]++x.aa)).length<=1:=by unfold cw; cases (!oM d (eT t.bA.l x.aa).1.aM x.aM)<;>simp
  omega
theorem Tp {α:Type}(g:α->Nat) (c:Nat) (l:List α):(l.map fun x=>g x+c).sum=(l.map g).sum+l.length*c:=by
 induction l with
 | nil=>simp
 | cons a r b=>simp only [List.map_cons,List.sum_cons,List.length_cons,b,Nat.succ_mul]; omega
theorem Tq (d:an) (t f:ay):(vh d t f.bA.l).length<=f.sz*(1+t.sz):=by
 have h1:=yH (To d t) f.bA.l;rw [Tp] at h1;have h2:=f.bH;have b:=Sl.gR (f:=aT.sz) f.bA aT.pos;have g:Sl.sz aT.sz f.bA=1+(f.bA.l.map aT.sz).sum:=rfl;have j:f.bA.l.length*t.sz<=f.sz*t.sz:=Nat.mul_le_mul_right _ (by omega);rw [Nat.mul_add,Nat.mul_one];unfold vh;omega
noncomputable def jZ (l:List ay) (n:Bs):Nat:=bif (bY l n).2 then(bY l n).1.sz else 0
theorem Tr (a:ay) (r:List ay) (n:Bs):jZ (a::r) n=if a.aa=n then a.sz else jZ r n:=by
 unfold jZ bY;rw [List.find?_cons];by_cases h:a.aa=n
 ·rw [show (a.aa==n)=true by simpa using h,if_pos h]; rfl
 ·rw [show (a.aa==n)=false by simpa using h,if_neg h]
theorem KT (s:Bs) (c:Nat):∀g:List Bs,g.Nodup->(g.map fun n=>if s=n then c else 0).sum<=c
 | [],_=>Nat.zero_le _
 | n::r,h=>by
  obtain⟨h1,h2⟩:=List.nodup_cons.1 h;rw [List.map_cons,List.sum_cons];by_cases f:s=n
  ·have h0:∀l:List Bs,n∉l->(l.map fun n=>if s=n then c else 0).sum=0:=fun l hl=>by
    induction l with
    | nil=>rfl
    | cons b q j =>
     rw [List.map_cons,List.sum_cons,if_neg (fun e=>hl (by rw [<- f,e]; exact .head _)),j (fun hq=>hl (.tail _ hq))]
   rw [if_pos f,h0 r h1]; omega
  ·rw [if_neg f]; have:=KT s c r h2; omega
theorem KU:∀(l:List ay) (f:List Bs),f.Nodup->(f.map (jZ l)).sum<=(l.map ay.sz).sum
 | [],f,_=>by
  have:∀q:List Bs,(q.map (jZ [])).sum=0:=fun q=>by
   induction q with
   | nil=>rfl
   | cons b q g=>rw [List.map_cons,List.sum_cons,g]; rfl
  rw [this]; exact Nat.zero_le _
 | a::r,f,h=>by
  have h1:=KT a.aa a.sz f h;have h2:=KU r f h;have j:∀q:List Bs,(q.map (jZ (a::r))).sum<=(q.map fun n=>if a.aa=n then a.sz else 0).sum+(q.map (jZ r)).sum:=fun q=>by
   induction q with
   | nil=>exact Nat.le_refl _
   | cons b q g =>
    simp only [List.map_cons,List.sum_cons];rw [Tr]
    split<;>omega
  have:=j f;rw [List.map_cons,List.sum_cons]; omega
def lZ:List Bs->List Bs->List Bs
 | _,[]=>[]
 | s,n::r=>bif s.contains n then lZ (s++[n]) r else n::lZ (s++[n]) r
theorem Fp:∀(l s:List Bs) (n:Bs),n∈lZ s l->n∉s
 | [],_,_,h=>by cases h
 | a::r,s,n,h=>by
  rw [lZ] at h;cases hc:s.contains a
  ·rw [hc,cond_false] at h;rcases List.mem_cons.1 h with rfl|h
   ·simpa using hc
   ·have:=Fp r (s++[a]) n h;exact fun hn=>this (by simp [hn])
  ·rw [hc,cond_true] at h;have:=Fp r (s++[a]) n h;exact fun hn=>this (by simp [hn])
theorem Fs:∀(l s:List Bs),(lZ s l).Nodup
 | [],_=>List.nodup_nil
 | a::r,s=>by
  rw [lZ];cases s.contains a
  ·rw [cond_false,List.nodup_cons];exact⟨fun h=>Fp r (s++[a]) a h (by simp),Fs r _⟩
  ·rw [cond_true]; exact Fs r _
theorem KV (d:an) (t:ay):∀(l s:List Bs),(s7 d t s l).length<=l.length+((lZ s l).map (jZ d.aA.l)).sum*(1+t.sz)
 | [],s=>by simp [s7]
 | n::r,s=>by
  have g:=KV d t r (s++[n]);rw [s7,List.length_append,lZ];cases he:decide (iZ d s n 2=0)
  ·simp only [Bool.not_false,cond_true,List.length_cons,List.length_nil];cases s.contains n
   ·simp only [cond_false,List.map_cons,List.sum_cons];have:((lZ (s++[n]) r).map (jZ d.aA.l)).sum*(1+t.sz)<=(jZ d.aA.l n+((lZ (s++[n]) r).map (jZ d.aA.l)).sum)*(1+t.sz):=Nat.mul_le_mul_right _ (by omega);omega
   ·simp only [cond_true]; omega
  ·have he:=oD he;have hc:s.contains n=false:=by
    cases hc:s.contains n
    ·rfl
    ·unfold iZ at he;rw [hc,Bool.and_true] at he;cases hz:decide (iO d n 2=0)
     ·rw [hz,cond_false] at he; rw [decide_eq_false_iff_not] at hz; exact absurd he hz
     ·rw [hz,cond_true] at he; cases he
   have f:(bY d.aA.l n).2=true:=by
    unfold iZ at he;rw [hc,Bool.and_false,cond_false] at he;unfold iO at he;cases f:(bY d.aA.l n).2
    ·rw [f] at he;cases b:fu n
     ·rw [b] at he; cases he
     ·rw [b] at he; cases he
    ·rfl
   have b:jZ d.aA.l n=(bY d.aA.l n).1.sz:=by unfold jZ; rw [f]; rfl
   have h1:=Tq d t (bY d.aA.l n).1;rw [hc];simp only [Bool.not_true,cond_false,List.map_cons,List.sum_cons,List.length_cons,Nat.add_mul];rw [b]; omega
theorem KW (d:an) (t:ay):∀(l:List bC) (s:List Bs),(vj d t s l).length<=l.length
 | [],s=>Nat.le_refl _
 | m::r,s=>by
  have b:=KW d t r (s++[m.aa]);rw [vj,List.length_append,List.length_cons];have:(cw (!decide (iZ d s m.aa 1=0)) (iZ d s m.aa 1) (t.aa++[46]++m.aa)).length<=1:=by unfold cw; cases (!decide (iZ d s m.aa 1=0))<;>simp
  omega
theorem Tt (d:an) (t:ay):(yF d t).length<=t.sz+(d.aA.l.map ay.sz).sum*(1+t.sz):=by
 have h0:=t.bH;have h1:=Sl.gR (f:=Bs.sz) t.cN (fun s=>Nat.succ_le_succ (Nat.zero_le _));have h2:=Sl.gR (f:=bC.sz) t.bV bC.pos;unfold yF;cases decide (t.aj=1)
 ·cases decide (t.aj=3)
  ·exact Nat.zero_le _
  ·simp only [cond_false,cond_true];have:=KW d t t.bV.l []; omega
 ·simp only [cond_true];have g:=KV d t t.cN.l [];have b:=KU d.aA.l (lZ [] t.cN.l) (Fs _ _);have j:=Nat.mul_le_mul_right (1+t.sz) b;omega
theorem KX (S:Nat):∀l:List ay,(l.map fun t=>t.sz+S*(1+t.sz)).sum=(l.map ay.sz).sum+S*(l.length+(l.map ay.sz).sum)
 | []=>rfl
 | a::r=>by
  rw [List.map_cons,List.sum_cons,KX S r,List.map_cons,List.sum_cons,List.length_cons];simp only [Nat.mul_add,Nat.mul_one];omega
theorem Tu {d:an}(hd:d.sz<=1048576):(vk d).length<=3300000000000:=by
 have h0:=d.bH;have h1:Sl.sz ay.sz d.aA=1+(d.aA.l.map ay.sz).sum:=rfl;have h2:=Sl.gR (f:=ay.sz) d.aA ay.pos;have b:=yH (Tt d) d.aA.l;rw [KX] at b;have g:(d.aA.l.map ay.sz).sum<=1048576:=by omega
 have j:(d.aA.l.map ay.sz).sum*(d.aA.l.length+(d.aA.l.map ay.sz).sum)<=1048576*(1048576+1048576):=Nat.mul_le_mul g (by omega);unfold vk;omega
def bB:Nat:=549755813888
theorem vl {α:Type}{s r:Sl α}(h:s.l.length+r.l.length<=1099511627776):bq 80 s r=some ⟨s.nl&&r.l.isEmpty,s.l++r.l⟩:=by
 unfold bq; rw [if_pos];have:(s.l.length+r.l.length)*80<=1099511627776*80:=Nat.mul_le_mul_right _ h;unfold dI; omega
theorem Tv {s:Sl Bs}(h:s.nl=true->s.l=[]) (hl:s.l.length<=bB):∃r,yI s=some r/\r.l=s.l/\(r.nl=true->r.l=[]):=by
 unfold yI;unfold bB at hl;cases hn:s.nl with
 | true=>exact⟨Sl.nil,rfl,(h hn).symm,fun _=>rfl⟩
 | false=>rw [cond_false,jL (by omega) (by simp; omega)]; exact⟨_,rfl,by simp,fun e=>by simp at e⟩
theorem Tw {n:Nat}(h:n<256):IntKind.wrap .u8 (n:Int)=(n:Int):=by
 have:(n:Int) % 256=n:=by omega
 simp [IntKind.wrap,IntKind.bits,IntKind.signed]; omega
theorem KY (k:Nat):nJ (⟨false,[((48+k:Nat):Int)]⟩:Sl Int)=[UInt8.ofNat (48+k)]:=by
 show [UInt8.ofNat ((48+k:Nat):Int).toNat]=_;rw [Int.toNat_natCast]
theorem Tx:∀(f u:Nat),u<10 ^ f->(Lib.decDigits u).length<=f+1:=by
 intro f;induction f with
 | zero =>
  intro u hu;have:u=0:=by simpa using hu
  subst this; rw [Lib.decDigits]; simp
 | succ f b =>
  intro u hu;rw [Lib.decDigits]
  split
  ·simp
  ·have:=b (u / 10) (by rw [Nat.pow_succ] at hu; omega);simp; omega
theorem BA {u:Nat}(h:u<=9223372036854775808):(Lib.decDigits u).length<=21:=Tx 20 u (by omega)
theorem Ty {n:Int}(h0 : -9223372036854775808<=n) (h1:n<=9223372036854775807):(Lib.itoa n).length<=22:=by
 unfold Lib.itoa
 split
 ·have:=BA (u:=n.natAbs) (by omega); simp; omega
 ·have:=BA (u:=n.toNat) (by omega); omega
theorem Tz:∀(f u:Nat),u<10 ^ f->u<=9223372036854775808->f<=30->∀m,f+1<=m->oO m (-(u:Int))=some (Lib.decDigits u):=by
 intro f;induction f with
 | zero =>
  intro u hu g j m hm;have:u=0:=by simpa using hu
  subst this;obtain⟨m,rfl⟩:∃k,m=k+1:=⟨m-1,by omega⟩;rw [Lib.decDigits]; rfl
 | succ f l =>
  intro u hu g j m hm;obtain⟨m,rfl⟩:∃k,m=k+1:=⟨m-1,by omega⟩;have h1:Int.tmod (-(u:Int)) 10 = -((u % 10:Nat):Int):=by rw [Int.neg_tmod]; rfl
  have h2:Int.tdiv (-(u:Int)) 10 = -((u / 10:Nat):Int):=by rw [Int.neg_tdiv]; rfl
  rw [oO,h1,h2,DZ (by omega),oB];have p:(48:Int) - -((u % 10:Nat):Int)=((48+u % 10:Nat):Int):=by omega
  rw [p,Tw (by omega),Lib.decDigits];by_cases b:u<10
  ·rw [dif_pos b,show decide ((-10:Int) < -(u:Int))=true from dT (by omega),cond_true,Nat.mod_eq_of_lt b,KY]
  ·rw [dif_neg b,show decide ((-10:Int) < -(u:Int))=false from dF (by omega),cond_false,IntWalk.i64_in _ (by omega),l (u / 10) (by rw [Nat.pow_succ] at hu; omega) (by omega) (by omega) m (by omega),oB];have hl:=BA (u:=u / 10) (by omega);rw [KY,eY (by simp; omega),oB]
theorem TA {n:Int}(h0 : -9223372036854775808<=n) (h1:n<=9223372036854775807):yJ n=some (Lib.itoa n):=by
 unfold yJ Ft;have b:∀u:Nat,u<=9223372036854775808->oO F0 (-(u:Int))=some (Lib.decDigits u):=fun u hu=>Tz 20 u (by omega) hu (by omega) F0 (by rw [ep]; omega);by_cases hn:n<0
 ·obtain⟨u,rfl⟩:∃u:Nat,n = -(u:Int):=⟨n.natAbs,by omega⟩;rw [show decide (-(u:Int)<0)=true from dT hn,cond_true,b u (by omega),oB];have hl:=BA (u:=u) (by omega);rw [eY (by simp; omega),oB];unfold Lib.itoa; rw [if_pos hn,show (-(u:Int)).natAbs=u by omega]; rfl
 ·obtain⟨u,rfl⟩:∃u:Nat,n=(u:Int):=⟨n.natAbs,by omega⟩;rw [show decide ((u:Int)<0)=false from dF hn,cond_false,IntWalk.i64_in _ (by omega),show (0:Int)-(u:Int) = -(u:Int) by omega,b u (by omega),oB];unfold Lib.itoa; rw [if_neg hn,Int.toNat_natCast]
def Wv:Nat->af->Prop
 | 0,_=>False
 | n+1,v=>(-9223372036854775808<=v.bL/\v.bL<=9223372036854775807)/\(v.aX.nl=true->v.aX.l=[])/\v.aX.l.length<=bB/\v.aB.l.length<=bB/\∀x∈v.aB.l,Wv n x
theorem Wv.mono:∀{n m:Nat}{v:af},n<=m->Wv n v->Wv m v
 | 0,_,_,_,h=>h.elim
 | n+1,0,_,hn,_=>by omega
 | n+1,m+1,v,hn,⟨a,b,c,d,e⟩=>⟨a,b,c,d,fun x hx=>Wv.mono (by omega) (e x hx)⟩
theorem KZ:∀(n:Nat){v:af},Wv n v->∀m,2*n<=m->∃r,l7 m v=some r/\Wv n r/\r.aj=v.aj
 | 0,_,h,_,_=>h.elim
 | n+1,v,⟨h2,y,q,u,z⟩,m,hm=>by
  obtain⟨m1,rfl⟩:∃m1,m=m1+1+1:=⟨m-2,by omega⟩;have hl:∀(l:List af) (s:Sl af),(∀x∈l,Wv n x)->(∀x∈s.l,Wv n x)->s.l.length+l.length<=bB->∃b:Sl af,qN (l7 m1) l s=some b/\(∀x∈b.l,Wv n x)/\b.l.length=s.l.length+l.length:=by
   intro l;induction l with
   | nil=>intro s _ f _; exact⟨s,rfl,f,rfl⟩
   | cons a t B =>
    intro s hl f w;obtain⟨r,hr,C,-⟩:=KZ n (hl a (.head _)) m1 (by omega);rw [qN];simp only [on,hr,oB];simp only [List.length_cons] at w;rw [vl (by unfold bB at w; simp; omega),oB];obtain⟨b,g,j,p⟩:=B ⟨s.nl&&[r].isEmpty,s.l++[r]⟩ (fun x hx=>hl x (.tail _ hx)) (fun x hx=>by
     rcases List.mem_append.1 hx with hx|hx
     ·exact f x hx
     ·rw [List.mem_singleton.1 hx]; exact C) (by simp; omega)
    exact⟨b,g,j,by rw [p]; simp; omega⟩
  obtain⟨b,g,j,E⟩:=hl v.aB.l Sl.nil z (fun _ h=>by cases h) (by simpa [Sl.nil] using u);obtain⟨k,p,F,G⟩:=Tv y q;rw [l7,yK,g,oB];simp only [on,oB,p];refine⟨_,rfl,⟨h2,G, ?_, ?_,j⟩,rfl⟩
  ·show k.l.length<=_; rw [F]; exact q
  ·show b.l.length<=_; rw [E]; simpa [Sl.nil] using u
theorem K0 {n:Nat}(hn:n<=1073741824){v:af}(h:Wv n v):∃r,Fu v=some r/\Wv n r/\r.aj=v.aj:=KZ n h F0 (by rw [ep]; omega)
theorem Wv.of:∀(n:Nat) (v:af),v.sz<=n->v.sz<=1048576->v.wf->Wv n v
 | 0,v,h,_,_=>by have:=af.pos v; omega
 | n+1,v,h,h2,hw=>by
  have h1:=v.bH;have b:=Sl.gQ (f:=af.sz) v.aB (fun x=>af.pos x);have g:=Sl.gQ (f:=Bs.sz) v.aX (fun x=>Bs.gf x);refine⟨?_, ?_, ?_, ?_,fun x hx=>?_⟩
  ·have:=af.Qi hw; unfold i64 at this; omega
  ·exact(af.Qk hw).1
  ·unfold bB; omega
  ·unfold bB; omega
  ·have j:=Sl.dh (f:=af.sz) hx;exact Wv.of n x (by omega) (by omega) ((af.Qj hw).2.2 x hx)
def fR:af:=af.mk 0 0 [] true [] Sl.nil
theorem vm:Wv 1 fR:=⟨⟨by decide,by decide⟩,fun _=>rfl,by show 0<=_; omega,by show 0<=_; omega,fun _ h=>by cases h⟩
theorem Fv {n:Nat}{v:af}(h:Wv (n+1) v) (hn:n<=1073741824) (s:Bs):∃x b,oP v s=some (x,b)/\((b=true/\Wv n x)\/(b=false/\x=fR)):=by
 unfold oP;simp only [on];generalize u6 v.aX s=i;cases hc:(((!decide (v.aj=(6:Int)))||(decide (i<(0:Int))))||(decide (((v.aB.l.length:Nat):Int)<=i)))
 ·simp only [Bool.or_eq_false_iff,decide_eq_false_iff_not] at hc;obtain⟨⟨-,h0⟩,h1⟩:=hc;have hi:i.toNat<v.aB.l.length:=by omega
  have f:dc v.aB.l i=some (v.aB.l[i.toNat]):=by
   unfold dc; rw [if_pos (by omega),List.getElem?_eq_getElem hi]
  obtain⟨r,h2,g,-⟩:=K0 hn (h.2.2.2.2 _ (List.getElem_mem hi));rw [cond_false,f,oB,h2];exact⟨r,true,rfl,.inl ⟨rfl,g⟩⟩
 ·exact⟨fR,false,rfl,.inr ⟨rfl,rfl⟩⟩
theorem K_ {n:Nat}{c:Z1}(h:Wv (n+1) c.dG) (hn:n<=1073741824) (v:af):∃b,s_ c v=some b:=by
 unfold s_;cases ((!decide (v.aj=(7:Int)))||(!c.iU))
 ·obtain⟨x,b,e,-⟩:=Fv h hn v.bK;rw [cond_false,e]; exact⟨_,rfl⟩
 ·exact⟨_,rfl⟩
def Cq (c c':Z1) (e:Int):Prop:=c'.Fd=c.Fd/\c'.dG=c.dG/\c'.iU=c.iU/\0<=c'.iC/\(e=0->c'.iC<=4096)
def Cs (c:Z1):Prop:=0<=c.iC/\c.iC<=4096
theorem Cq.trans {a b c:Z1}{e f:Int}(h:Cq a b e) (h':Cq b c f):Cq a c f:=⟨h'.1.trans h.1,h'.2.1.trans h.2.1,h'.2.2.1.trans h.2.2.1,h'.2.2.2.1,h'.2.2.2.2⟩
theorem La {c:Z1}(h:Cs c) (l:Int):∃e c',tc c l=some (e,c')/\Cq c c' e/\(e=0->l<=24):=by
 unfold tc;unfold Cs at h;by_cases hl:24<l
 ·rw [dT hl];exact⟨5,c,rfl,⟨rfl,rfl,rfl,h.1,fun h=>by cases h⟩,fun h=>by cases h⟩
 ·rw [dF hl,cond_false,fq (by omega),oB];by_cases b:4096<c.iC+1
  ·rw [dT b];exact⟨4,_,rfl,⟨rfl,rfl,rfl,by show 0<=c.iC+1; omega,fun h=>by cases h⟩,fun h=>by cases h⟩
  ·rw [dF b];exact⟨0,_,rfl,⟨rfl,rfl,rfl,by show 0<=c.iC+1; omega,fun _=>by show c.iC+1<=4096; omega⟩,fun _=>by omega⟩
theorem Lb:∀(n:Nat) (c:Z1) (v:af) (l:Int),Cs c -> -1000<=l->(25-l)<(n:Int)->0<n->∃e c',l8 n c v l=some (e,c')/\Cq c c' e
 | 0,_,_,_,_,_,_,h=>by omega
 | n+1,c,v,l,hc,h0,hn,_=>by
  obtain⟨e,c1,h1,h2,j⟩:=La hc l;rw [l8,h1,oB];by_cases he:e=0
  ·have hl:=j he;rw [dT he,Bool.not_true,cond_false];have loop:∀(t:List af) (b:Z1),Cs b->∃o,qP l (l8 n) t b=some o/\(match o with|Sum.inl c'=>Cq b c' 0|Sum.inr p=>Cq b p.2 p.1):=by
    intro t;induction t with
    | nil=>intro b f; exact⟨_,rfl,⟨rfl,rfl,rfl,f.1,fun _=>f.2⟩⟩
    | cons x r k =>
     intro b f;rw [qP];simp only [on];rw [fq (by omega),oB];obtain⟨m,c2,g1,g2⟩:=Lb n b x (l+1) f (by omega) (by omega) (by omega);rw [g1,oB];by_cases g:m=0
     ·rw [dT g,Bool.not_true,cond_false];obtain⟨o,o1,o2⟩:=k c2 ⟨g2.2.2.2.1,g2.2.2.2.2 g⟩;refine⟨o,o1, ?_⟩;cases o with
      | inl c'=>exact g2.trans o2
      | inr p=>exact g2.trans o2
     ·rw [dF g];exact⟨_,rfl,g2⟩
   obtain⟨o,o1,o2⟩:=loop v.aB.l c1 ⟨h2.2.2.2.1,h2.2.2.2.2 he⟩;rw [o1,oB];cases o with
   | inl c'=>exact⟨0,c',rfl,h2.trans o2⟩
   | inr p=>exact⟨p.1,p.2,rfl,h2.trans o2⟩
  ·rw [dF he];exact⟨e,c1,rfl,h2⟩
theorem TB {n:Int}(h0 : -9223372036854775808<=n) (h1:n<=9223372036854775807):∃r,yL n=some r:=by
 unfold yL Lc BB;rw [if_pos ⟨h0,h1,by have:=Ty h0 h1; unfold fD; omega⟩];exact⟨_,rfl⟩
theorem Wv.kind {n:Nat}{v:af}(h:Wv (n+1) v) (k:Int):Wv (n+1) ⟨k,v.bL,v.bK,v.aB.nl,v.aB.l,v.aX⟩:=h
theorem Wv.text (n:Nat) (s:Bs):Wv (n+1) (BC s):=⟨⟨by show (-9223372036854775808:Int)<=0; decide,by show (0:Int)<=9223372036854775807; decide⟩,fun _=>rfl,by show 0<=_; omega,by show 0<=_; omega,fun _ h=>by cases h⟩
theorem TC {n:Nat}{v:af}(h:Wv (n+1) v) (c:Z1) (f:Bs):∃x e,vn c f v=some (x,e)/\Wv (n+1) x:=by
 have z:Wv (n+1) fR:=vm.mono (by omega);have fin:∀(b:Bool) (x:af),Wv (n+1) x->∃y e,(bif (!b) then(some (fR,(23:Int))) else(some (x,(0:Int))))=some (y,e)/\Wv (n+1) y:=by
  intro b x hx;cases b
  ·exact⟨fR,23,rfl,z⟩
  ·exact⟨x,0,rfl,hx⟩
 unfold vn;simp only [on];cases (f==([73,110,116]:Bs))
 ·cases (f==([83,116,114,105,110,103]:Bs))
  ·cases (f==([66,111,111,108,101,97,110]:Bs))
   ·cases (f==([73,68]:Bs))
    ·simp only [cond_false];have last:∀(w:af) (b:Bool),Wv (n+1) w->∃y e,(bif (!b) then(some (fR,(23:Int))) else(some (w,(0:Int))))=some (y,e)/\Wv (n+1) y:=fun w b hw=>fin b w hw;cases (decide (v.aj=(3:Int))&&(!c.iU))
     ·exact last v _ h
     ·exact last _ _ (h.kind 4)
    ·simp only [cond_false,cond_true];cases decide (v.aj=(2:Int))
     ·exact fin _ v h
     ·obtain⟨r,hr⟩:=TB h.1.1 h.1.2;rw [cond_true,hr,oB,oB];exact fin _ _ (Wv.text n r)
   ·exact fin _ v h
  ·exact fin _ v h
 ·exact fin _ v h
def jy (N:Nat) (l:Int):Nat:=N+(27-l).toNat
theorem Ld (N:Nat){l:Int}(h:l<=24):jy N l=jy N (l+1)+1:=by unfold jy; omega
def kU (N:Nat) (d:an) (c:Z1):Prop:=c.Fd=d/\Wv N c.dG/\Cs c
theorem kU.step {N:Nat}{d:an}{c c':Z1}(h:kU N d c) (hq:Cq c c' 0):kU N d c' :=
 ⟨hq.1.trans h.1,by rw [hq.2.1]; exact h.2.1,hq.2.2.2.1,hq.2.2.2.2 rfl⟩
def jA (N:Nat) (l:Int) (c:Z1) (o:Option (af×Int×Z1)):Prop:=∃x e c',o=some (x,e,c')/\Cq c c' e/\Wv (jy N l) x
def vp (N:Nat) (d:an) (n:Nat) (l:Int):Prop:=∀c t v,kU N d c->bX t.av->Wv N v->jA N l c (fN n c t v l)
theorem oQ {N:Nat}{l:Int}(h:1<=N):Wv (jy N l) fR:=vm.mono (by unfold jy; omega)
theorem TD {N:Nat}{d:an}{n:Nat}{l:Int}(hN:1<=N) (h0 : -1000<=l) (hl:l<=24) (s:vp N d n (l+1)) (c:Z1) (t:ax) (v:af) (hc:kU N d c) (ht:bX t.av) (hv:Wv N v):jA N l c (qQ (n+1) c t v l):=by
 obtain⟨f,rfl⟩:∃k,N=k+1:=⟨N-1,by omega⟩;have loop:∀(r:List af) (b:Z1) (y:af),(∀x∈r,Wv (f+1) x)->kU (f+1) d b->(∀x∈y.aB.l,Wv (jy (f+1) (l+1)) x)->y.aB.l.length+r.length<=bB ->
   ∃o,qR t l (fN n) r b y=some o/\(match o with
    | Sum.inl p=>Cq b p.1 0/\p.2.bL=y.bL/\p.2.aX=y.aX/\(∀x∈p.2.aB.l,Wv (jy (f+1) (l+1)) x)/\p.2.aB.l.length<=bB
    | Sum.inr p=>Cq b p.2.2 p.2.1/\p.1=fR):=by
  intro r;induction r with
  | nil=>intro b y _ g m hlen; exact⟨_,rfl,⟨rfl,rfl,rfl,g.2.2.1,fun _=>g.2.2.2⟩,rfl,rfl,m,by simpa using hlen⟩
  | cons a r u =>
   intro b y hr g m hlen;simp only [List.length_cons] at hlen;rw [qR];simp only [on];rw [fq (by omega),oB];obtain⟨x,e,w,B,j,C⟩:=s b t a g ht (hr a (.head _));rw [B,oB];by_cases he:e=0
   ·subst he;have E:bq 80 y.aB (⟨false,[x]⟩:Sl af)=some ⟨y.aB.nl&&List.isEmpty [x],y.aB.l++[x]⟩:=vl (by unfold bB at hlen; simp; omega);simp only [decide_true,Bool.not_true,cond_false];rw [E,oB];obtain⟨o,o1,o2⟩:=u w ⟨y.aj,y.bL,y.bK,y.aB.nl&&List.isEmpty [x],y.aB.l++[x],y.aX⟩ (fun z hz=>hr z (.tail _ hz)) (g.step j) (fun z hz=>by
     rcases List.mem_append.1 hz with hz|hz
     ·exact m z hz
     ·rw [List.mem_singleton.1 hz]; exact C) (by show (y.aB.l++[x]).length+r.length<=bB; simp; omega)
    refine⟨o,o1, ?_⟩;cases o with
    | inl p=>exact⟨j.trans o2.1,o2.2.1,o2.2.2.1,o2.2.2.2.1,o2.2.2.2.2⟩
    | inr p=>exact⟨j.trans o2.1,o2.2⟩
   ·rw [show (!decide (e=0))=true by simpa using he,cond_true];exact⟨_,rfl,j,rfl⟩
 rw [qQ];simp only [on];have F:∀x∈(bif (!decide (v.aj=(5:Int))) then((⟨false,[v]⟩:Sl af)) else(v.aB)).l,Wv (f+1) x:=by
  cases (!decide (v.aj=(5:Int)))
  ·intro x hx; exact(hv.2.2.2.2 x hx).mono (by omega)
  ·intro x hx; rw [List.mem_singleton.1 hx]; exact hv
 have hlen:(bif (!decide (v.aj=(5:Int))) then((⟨false,[v]⟩:Sl af)) else(v.aB)).l.length<=bB:=by
  cases (!decide (v.aj=(5:Int)))
  ·exact hv.2.2.2.1
  ·show 1<=bB; unfold bB; omega
 obtain⟨o,o1,o2⟩:=loop _ c (af.mk 5 0 [] true [] Sl.nil) F hc (fun _ h=>by cases h) (by show 0+_<=bB; rw [Nat.zero_add]; exact hlen);rw [o1,oB];cases o with
 | inl p =>
  obtain⟨G,H,q,I,J⟩:=o2;refine⟨p.2,0,p.1,rfl,G, ?_⟩;rw [Ld (f+1) hl];refine⟨by rw [H]; exact⟨by show (-9223372036854775808:Int)<=0; decide,by show (0:Int)<=9223372036854775807; decide⟩,by rw [q]; exact fun _=>rfl,by rw [q]; show 0<=bB; omega,J,I⟩
 | inr p =>
  refine⟨p.1,p.2.1,p.2.2,rfl,o2.1, ?_⟩;rw [o2.2]; exact oQ (by omega)
def BD (n:Nat) (f:ax) (a3:Int) (p:Z1) (g:af):Option (af×Int×Z1) :=
 (tc p a3).bind fun b=>bif (!decide (b.1=(0:Int))) then(some (fR,b.1,b.2)) else(bif (decide (g.aj=(0:Int))) then(bif ij f then(some (fR,(23:Int),b.2)) else(some (fR,(0:Int),b.2))) else((oh f).bind fun l=>bif l.2 then(((qQ n) b.2 l.1 g a3).bind fun j=>some (j.1,j.2.1,j.2.2)) else(bif (((cL b.2.Fd f.aa).2&&(!(bif (cL b.2.Fd f.aa).2 then oS f.aa else false)))&&(decide ((cL b.2.Fd f.aa).1.aj=(5:Int)))) then(((qS n) b.2 (cL b.2.Fd f.aa).1 g a3).bind fun k=>some (k.1,k.2.1,k.2.2)) else((vn b.2 f.aa g).bind fun m=>some (m.1,m.2,b.2)))))
theorem TE (n:Nat) (a0:Z1) (b:ax) (a2:af) (a3:Int):fN (n+1) a0 b a2 a3 =
  bif (!ni a0.Fd b.aa) then(some (fR,(10:Int),a0)) else(bif ((decide (a2.aj=(7:Int)))&&a0.iU) then((oP a0.dG a2.bK).bind fun f=>bif (!decide (f.1.aj=(0:Int))) then((Fw a0 f.1 a3).bind fun g=>bif (!decide (g.1=(0:Int))) then(some (fR,g.1,g.2)) else(some (f.1,(0:Int),g.2))) else(BD n b a3 a0 f.1)) else(BD n b a3 a0 a2)):=by
 rw [fN]; rfl
def Lf (N:Nat) (d:an) (n:Nat) (l:Int):Prop:=∀c t v,kU N d c->bX t.av->Wv N v->jA N l c (qQ n c t v l)
def Lg (N:Nat) (d:an) (n:Nat) (l:Int):Prop:=∀c b v,kU N d c->Wv N v->jA N l c (qS n c (cL d b).1 v l)
theorem jA.eta {N:Nat}{l:Int}{c:Z1}{o:Option (af×Int×Z1)}(h:jA N l c o):jA N l c (o.bind fun x=>some (x.1,x.2.1,x.2.2)):=by
 obtain⟨x,e,c',h1,h2,b⟩:=h;exact⟨x,e,c',by rw [h1]; rfl,h2,b⟩
theorem jA.after {N:Nat}{l:Int}{c c1:Z1}{o:Option (af×Int×Z1)}(h:Cq c c1 0) (h2:jA N l c1 o):jA N l c o:=by
 obtain⟨x,e,c',b,a2,a3⟩:=h2;exact⟨x,e,c',b,h.trans a2,a3⟩
theorem Lh {N:Nat}{d:an}{n:Nat}{l:Int}(hN:1<=N) (b:l<=24->Lf N d n l) (hO:l<=24->Lg N d n l) (c:Z1) (t:ax) (v:af) (hc:kU N d c) (ht:bX t.av) (hv:Wv N v):jA N l c (BD n t l c v):=by
 obtain⟨e,c1,h1,h2,f⟩:=La hc.2.2 l;unfold BD;rw [h1,oB];by_cases he:e=0
 ·subst he;have hl:=f rfl;have hg:=hc.step h2;simp only [decide_true,Bool.not_true,cond_false];cases decide (v.aj=0)
  ·rw [cond_false,yc ht,oB];cases eZ (cQ t.av).l
   ·rw [cond_false];simp only [cond_false];rw [hg.1];generalize (((cL d t.aa).2&&(!(bif (cL d t.aa).2 then oS t.aa else false)))&&(decide ((cL d t.aa).1.aj=(5:Int))))=w;cases w
    ·obtain⟨g,rfl⟩:∃k,N=k+1:=⟨N-1,by omega⟩;obtain⟨x,e,g1,g2⟩:=TC hv c1 t.aa;rw [cond_false,g1,oB];exact⟨x,e,c1,rfl,⟨h2.1,h2.2.1,h2.2.2.1,h2.2.2.2.1,fun _=>h2.2.2.2.2 rfl⟩,g2.mono (by unfold jy; omega)⟩
    ·exact(hO hl c1 t.aa v hg hv).eta.after h2
   ·exact(b hl c1 (jO t) v hg (yb ht) hv).eta.after h2
  ·rw [cond_true];cases ij t
   ·exact⟨fR,0,c1,rfl,h2,oQ hN⟩
   ·exact⟨fR,23,c1,rfl,⟨h2.1,h2.2.1,h2.2.2.1,h2.2.2.2.1,fun h=>by cases h⟩,oQ hN⟩
 ·rw [show (!decide (e=0))=true by simpa using he,cond_true];exact⟨fR,e,c1,rfl,h2,oQ hN⟩
theorem Li {N:Nat}{d:an}{n:Nat}{l:Int}(hN:1<=N) (r:N<=1073741824) (h0 : -1000<=l) (f:l<=24->Lf N d n l) (hO:l<=24->Lg N d n l):vp N d (n+1) l:=by
 intro c t v hc ht hv;rw [TE];cases (!ni c.Fd t.aa)
 ·rw [cond_false];cases ((decide (v.aj=(7:Int)))&&c.iU)
  ·exact Lh hN f hO c t v hc ht hv
  ·obtain⟨j,rfl⟩:∃k,N=k+1:=⟨N-1,by omega⟩;obtain⟨x,b,m,p⟩:=Fv hc.2.1 (by omega) v.bK;have hx:Wv (j+1) x:=by
    rcases p with ⟨-,h⟩|⟨-,h⟩
    ·exact h.mono (by omega)
    ·rw [h]; exact vm.mono (by omega)
   rw [cond_true,m,oB];cases (!decide (x.aj=0))
   ·exact Lh hN f hO c t x hc ht hx
   ·obtain⟨e,c',q,g⟩:=Lb F0 c x l hc.2.2 h0 (by rw [ep]; omega) (by rw [ep]; omega);rw [cond_true,show Fw c x l=some (e,c') from q,oB];by_cases he:e=0
    ·subst he;simp only [decide_true,Bool.not_true,cond_false];exact⟨x,0,c',rfl,g,hx.mono (by unfold jy; omega)⟩
    ·rw [show (!decide (e=0))=true by simpa using he,cond_true];exact⟨fR,e,c',rfl,g,oQ hN⟩
 ·exact⟨fR,10,c,rfl,⟨rfl,rfl,rfl,hc.2.2.1,fun h=>by cases h⟩,oQ hN⟩
def qU (b:af) (k:Bs) (m:Z1->af->Option (((Z1×af)) ⊕ ((af×Int×Z1)))) (f:Int) (g:Z1) (p:af):Option (((Z1×af)) ⊕ ((af×Int×Z1))) :=
 bif (!decide (f=(0:Int))) then(some (Sum.inr (fR,f,g))) else((bq 16 b.aX (⟨false,[k]⟩:Sl Bs)).bind fun q=>(bq 80 b.aB (⟨false,[p]⟩:Sl af)).bind fun j=>m g (af.mk b.aj b.bL b.bK j.nl j.l q))
theorem TF (b:ay) (a2:af) (a3:Int) (f:Z1->az->Int->Option (af×Int×Z1)) (g:Z1->ax->af->Int->Option (af×Int×Z1)) (h:az) (r:List az) (i:Nat) (c:Z1) (x:af) :
  gx b a2 a3 g f (h::r) i c x=bif (iq (⟨b.bG.nl,b.bG.l.take i⟩:Sl az) h.aa).2 then(gx b a2 a3 g f r (i+1) c x) else
   ((oP a2 h.aa).bind fun j=>a_ (j.2) (s_ c j.1) false fun p =>
    bif (j.2&&(!p)) then((cV a3 (1:Int)).bind fun q=>(g c h.aM j.1 q).bind fun k=>qU x h.aa (gx b a2 a3 g f r (i+1)) k.2.1 k.2.2 k.1)
    else(bif h.eC then((cV a3 (1:Int)).bind fun s=>(f c h s).bind fun m=>qU x h.aa (gx b a2 a3 g f r (i+1)) m.2.1 m.2.2 m.1)
    else(bif ij h.aM then(qU x h.aa (gx b a2 a3 g f r (i+1)) (22:Int) c af.zero) else(gx b a2 a3 g f r (i+1) c x)))):=by
 rw [gx]; rfl
def yM (N:Nat) (h:az):Prop:=bX h.aM.av/\Wv N h.dZ
def Fz (N:Nat) (d:an) (n:Nat) (l:Int):Prop:=∀c h,kU N d c->yM N h->jA N l c (iv n c h l)
def oU (N:Nat) (l:Int) (b:Z1) (o:Option (((Z1×af)) ⊕ ((af×Int×Z1)))):Prop:=∃z,o=some z/\(match z with
 | Sum.inl p=>Cq b p.1 0/\p.2.bL=0/\(p.2.aX.nl=true->p.2.aX.l=[])/\p.2.aX.l.length<=2097152/\(∀x∈p.2.aB.l,Wv (jy N (l+1)) x)/\p.2.aB.l.length<=2097152
 | Sum.inr p=>Cq b p.2.2 p.2.1/\p.1=fR)
theorem oU.after {N:Nat}{l:Int}{a b:Z1}{o} (h:Cq a b 0) (h2:oU N l b o):oU N l a o:=by
 obtain⟨z,e,hz⟩:=h2;refine⟨z,e, ?_⟩;cases z with
 | inl p=>exact⟨h.trans hz.1,hz.2⟩
 | inr p=>exact⟨h.trans hz.1,hz.2⟩
theorem FA {N:Nat}{d:an}{n:Nat}{l:Int}(j:N<=1073741824) (h0 : -1000<=l) (hl:l<=24) (p:vp (N+1) d n (l+1)) (q:Fz (N+1) d n (l+1)) (a:ay) (v:af) (hv:Wv (N+1) v):∀(r:List az) (i:Nat) (c:Z1) (x:af),(∀h∈r,yM (N+1) h)->kU (N+1) d c->x.bL=0->(x.aX.nl=true->x.aX.l=[])->x.aX.l.length+r.length<=2097152->(∀y∈x.aB.l,Wv (jy (N+1) (l+1)) y)->x.aB.l.length+r.length<=2097152->oU (N+1) l c (gx a v l (fN n) (iv n) r i c x)
 | [],i,c,x,_,hc,h1,h2,s,k,t=>⟨_,rfl,⟨rfl,rfl,rfl,hc.2.2.1,fun _=>hc.2.2.2⟩,h1,h2,by simpa using s,k,by simpa using t⟩
 | h::r,i,c,x,hr,hc,h1,h2,s,k,t=>by
  simp only [List.length_cons] at s t;have hh:=hr h (.head _);have B:∀z∈r,yM (N+1) z:=fun z hz=>hr z (.tail _ hz);have skip:oU (N+1) l c (gx a v l (fN n) (iv n) r (i+1) c x):=FA j h0 hl p q a v hv r (i+1) c x B hc h1 h2 (by omega) k (by omega);have fin:∀(o:Option (af×Int×Z1)),jA (N+1) (l+1) c o->oU (N+1) l c (o.bind fun f=>qU x h.aa (gx a v l (fN n) (iv n) r (i+1)) f.2.1 f.2.2 f.1):=by
   intro o C;obtain⟨y,e,c1,u,g,E⟩:=C;rw [u,oB];unfold qU;by_cases he:e=0
   ·subst he;have F:bq 16 x.aX (⟨false,[h.aa]⟩:Sl Bs)=some ⟨x.aX.nl&&List.isEmpty [h.aa],x.aX.l++[h.aa]⟩:=fU (by decide) (by simp; omega);have G:bq 80 x.aB (⟨false,[y]⟩:Sl af)=some ⟨x.aB.nl&&List.isEmpty [y],x.aB.l++[y]⟩:=vl (by simp; omega);simp only [decide_true,Bool.not_true,cond_false];rw [F,oB,G,oB];refine oU.after g (FA j h0 hl p q a v hv r (i+1) c1 _ B (hc.step g) h1 (fun H=>absurd H (by show ¬((x.aX.nl&&false)=true); simp)) (by show (x.aX.l++[h.aa]).length+r.length<=2097152; simp; omega) (fun z hz=>?_) (by show (x.aB.l++[y]).length+r.length<=2097152; simp; omega))
    rcases List.mem_append.1 hz with hz|hz
    ·exact k z hz
    ·rw [List.mem_singleton.1 hz]; exact E
   ·rw [show (!decide (e=0))=true by simpa using he,cond_true];exact⟨_,rfl,g,rfl⟩
  rw [TF];cases (iq (⟨a.bG.nl,a.bG.l.take i⟩:Sl az) h.aa).2
  ·obtain⟨y,b,u,g⟩:=Fv hv j h.aa;obtain⟨m,hm⟩:=K_ hc.2.1 j y;have I:Wv (N+1) y:=by
    rcases g with ⟨-,h⟩|⟨-,h⟩
    ·exact h.mono (by omega)
    ·rw [h]; exact vm.mono (by omega)
   have rest:oU (N+1) l c (bif h.eC then((cV l (1:Int)).bind fun J=>(iv n c h J).bind fun w=>qU x h.aa (gx a v l (fN n) (iv n) r (i+1)) w.2.1 w.2.2 w.1)
    else(bif ij h.aM then(qU x h.aa (gx a v l (fN n) (iv n) r (i+1)) (22:Int) c af.zero) else(gx a v l (fN n) (iv n) r (i+1) c x))):=by
    cases h.eC
    ·cases ij h.aM
     ·exact skip
     ·exact⟨_,rfl,⟨rfl,rfl,rfl,hc.2.2.1,fun h=>by cases h⟩,rfl⟩
    ·rw [cond_true,fq (by omega),oB];exact fin _ (q c h hc hh)
   have go:oU (N+1) l c ((cV l (1:Int)).bind fun K=>(fN n c h.aM y K).bind fun f=>qU x h.aa (gx a v l (fN n) (iv n) r (i+1)) f.2.1 f.2.2 f.1):=by
    rw [fq (by omega),oB];exact fin _ (p c h.aM y hc hh.1 I)
   rw [cond_false,u,oB];cases b
   ·exact rest
   ·simp only [a_,if_true,hm,oB,Bool.true_and];cases m
    ·exact go
    ·exact rest
  ·exact skip
theorem Lj (c:Z1) (a:ay):∀l:List Bs,oV c a l=Sum.inl ()\/oV c a l=Sum.inr (fR,22,c)
 | []=>.inl rfl
 | k::l=>by
  rw [oV];simp only [on];cases (iq a.bG k).2
  ·exact .inr rfl
  ·exact Lj c a l
theorem TG {N:Nat}{d:an}{n:Nat}{l:Int}(f:N<=1073741824) (h0 : -1000<=l) (hl:l<=24) (g:vp (N+1) d n (l+1)) (j:Fz (N+1) d n (l+1)) (a:ay) (b:(∀h∈a.bG.l,yM (N+1) h)/\a.bG.l.length<=2097152) (c:Z1) (v:af) (hc:kU (N+1) d c) (hv:Wv (N+1) v):jA (N+1) l c (qS (n+1) c a v l):=by
 have same:∀e:Int,e≠0->Cq c c e:=fun e he=>⟨rfl,rfl,rfl,hc.2.2.1,fun h=>absurd h he⟩;rw [qS];cases (!decide (v.aj=(6:Int)))
 ·rw [cond_false];simp only [on];rcases Lj c a v.aX.l with h|h
  ·rw [h];obtain⟨z,e,hz⟩:=FA f h0 hl g j a v hv a.bG.l 0 c (af.mk 6 0 [] true [] Sl.nil) b.1 hc rfl (fun _=>rfl) (by show 0+_<=_; rw [Nat.zero_add]; exact b.2) (fun _ h=>by cases h) (by show 0+_<=_; rw [Nat.zero_add]; exact b.2);simp only;rw [e,oB];cases z with
   | inl p =>
    obtain⟨k,m,q,s,r,t⟩:=hz;refine⟨p.2,0,p.1,rfl,k, ?_⟩;rw [Ld (N+1) hl];exact⟨by rw [m]; exact⟨by decide,by decide⟩,q,by unfold bB; omega,by unfold bB; omega,r⟩
   | inr p =>
    refine⟨p.1,p.2.1,p.2.2,rfl,hz.1, ?_⟩;rw [hz.2]; exact oQ (by omega)
  ·rw [h];exact⟨fR,22,c,rfl,same 22 (by decide),oQ (by omega)⟩
 ·exact⟨fR,23,c,rfl,same 23 (by decide),oQ (by omega)⟩
theorem TH {N:Nat}{d:an}{n:Nat}{l:Int}(b:vp (N+1) d n l):Fz (N+1) d (n+1) l:=by
 intro c h hc hh;rw [iv];obtain⟨x,e,c1,h1,h2,f⟩:=b ⟨c.Fd,fR,true,c.iC⟩ h.aM h.dZ ⟨hc.1,vm.mono (by omega),hc.2.2⟩ hh.1 hh.2;rw [show (af.mk 0 0 [] true [] Sl.nil)=fR from rfl,h1,oB];simp only [on];exact⟨x,e,_,rfl,⟨h2.1,rfl,rfl,h2.2.2.2.1,h2.2.2.2.2⟩,f⟩
def vq (N:Nat) (d:an):Prop:=∀b,(∀h∈(cL d b).1.bG.l,yM N h)/\(cL d b).1.bG.l.length<=2097152
theorem FB {N:Nat}{d:an}(f:N<=1073741823) (b:vq (N+1) d):∀(k:Nat) (l:Int),25-l<=(k:Int) -> -1000<=l->∀n,3*k+1<=n->vp (N+1) d n l
 | 0,l,hk,h0,n,hn=>by
  obtain⟨m,rfl⟩:∃m,n=m+1:=⟨n-1,by omega⟩;exact Li (by omega) (by omega) h0 (fun h=>by omega) (fun h=>by omega)
 | k+1,l,hk,h0,n,hn=>by
  obtain⟨m,rfl⟩:∃m,n=m+1+1+1:=⟨n-3,by omega⟩;have g:=FB f b k (l+1) (by omega) (by omega) (m+1) (by omega);have j:=FB f b k (l+1) (by omega) (by omega) m (by omega);refine Li (by omega) (by omega) h0 (fun hl=>?_) (fun hl=>?_)
  ·intro c t v hc ht hv;exact TD (by omega) h0 hl g c t v hc ht hv
  ·intro c p v hc hv;exact TG (by omega) h0 hl g (TH j) _ (b p) c v hc hv
theorem TJ {N:Nat}{d:an}(l:N<=1073741000) (g:vq (N+1) d) (t:ax) (v b:af) (ht:bX t.av) (hv:Wv (N+1) v) (f:Wv (N+1) b):∃x e,vr d t v b=some (x,e):=by
 unfold vr;obtain⟨m,hm⟩:=K_ (c:=⟨d,b,true,0⟩) f (by omega) v;rw [hm,oB];cases m
 ·obtain⟨x,e,c',h1,h2,j⟩:=FB (by omega) g 24 1 (by omega) (by omega) F0 (by rw [ep]; omega) ⟨d,b,true,0⟩ t v ⟨rfl,f,by show (0:Int)<=0; decide,by show (0:Int)<=4096; decide⟩ ht hv;rw [cond_false,show Ll (Z1.mk d b true 0) t v (1:Int)=some (x,e,c') from h1,oB];unfold BE;simp only;cases (!decide (e=(0:Int)))
  ·obtain⟨r,k,-⟩:=K0 (n:=jy (N+1) 1) (by unfold jy; omega) j;rw [cond_false,k];exact⟨_,_,rfl⟩
  ·exact⟨_,_,rfl⟩
 ·simp only [on];cases (!ni d t.aa)<;>exact⟨_,_,rfl⟩
def j6 (l:List Int):List Int:=l.filter fun x=>!decide (x=1)
theorem Lm {s:Sl Int}(h:bX s):∃nl,vt s=some ⟨nl,j6 s.l⟩:=by
 unfold vt;rw [A8 h,oB,oB];exact⟨s.nl,rfl⟩
theorem TL {a b:ax}(f:bX a.av) (g:bX b.av):yN a b=some (a.aa==b.aa&&decide (j6 a.av.l=j6 b.av.l)):=by
 obtain⟨j,h1⟩:=Lm f;obtain⟨k,h2⟩:=Lm g;unfold yN;rw [h1,h2];cases h:a.aa==b.aa
 ·simp [a_]
 ·simp [a_,Fh]
def gF (l:List Int):List Int:=bif fz l then l.drop 1 else l
theorem BF (s:Sl Int):(cQ s).l=gF s.l:=by unfold cQ gF; cases fz s.l<;>rfl
def wk:Nat->List Int->List Int->List Int
 | 0,_,_=>[]
 | n+1,a,b=>(bif fz a&&fz b then [1] else [])++(bif eZ (gF a)&&eZ (gF b) then 2::wk n ((gF a).drop 1) ((gF b).drop 1) else [])
theorem TM (l:List Int):(gF l).length<=l.length:=by unfold gF; cases fz l<;>simp
theorem TN {l:List Int}(h:eZ (gF l)=true):((gF l).drop 1).length<l.length:=by
 have h1:=A_ h; have h2:=TM l; simp; omega
theorem Ln:∀(n:Nat) (a b z o:ax),a.av.l.length<n->bX a.av->bX b.av->o.av.l.length+2*a.av.l.length<=1073741824->(o.av.nl=true->o.av.l=[]) ->
  ∃nl,oZ n a b z o=some (⟨o.aa,⟨nl,o.av.l++wk n a.av.l b.av.l⟩⟩,true)/\(nl=true->o.av.l++wk n a.av.l b.av.l=[])
 | 0,_,_,_,_,h,_,_,_,_=>by omega
 | n+1,a,b,z,o,h,k,m,hl,hz=>by
  have key:∀o':ax,o'.av.l.length+2*a.av.l.length<=1073741825->(o'.av.nl=true->o'.av.l=[])->∃nl,vu a b z (oZ n) o'=some (⟨o'.aa,⟨nl,o'.av.l++(bif eZ (gF a.av.l)&&eZ (gF b.av.l) then 2::wk n ((gF a.av.l).drop 1) ((gF b.av.l).drop 1) else [])⟩⟩,true) /\
    (nl=true->o'.av.l++(bif eZ (gF a.av.l)&&eZ (gF b.av.l) then 2::wk n ((gF a.av.l).drop 1) ((gF b.av.l).drop 1) else [])=[]):=by
   intro o' s p;unfold vu;rw [Lo,Lo,yc k,yc m,oB,oB,BF,BF];cases h1:eZ (gF a.av.l)
   ·exact⟨o'.av.nl,by simp,by simpa using p⟩
   ·cases h2:eZ (gF b.av.l)
    ·exact⟨o'.av.nl,by simp,by simpa using p⟩
    ·simp only [cond_true,Bool.not_true,Bool.or_self,cond_false,Bool.and_self];have aJ:=TN h1;have j:(jO a).av.l=(gF a.av.l).drop 1:=by unfold jO; rw [BF]
     have q:(jO b).av.l=(gF b.av.l).drop 1:=by unfold jO; rw [BF]
     rw [fU (by decide) (by simp; omega),oB];obtain⟨nl,f,r⟩:=Ln n (jO a) (jO b) z ⟨o'.aa,⟨o'.av.nl&&false,o'.av.l++[2]⟩⟩ (by rw [j]; omega) (yb k) (yb m) (by rw [j]; simp only [List.length_append,List.length_singleton]; omega) (by simp);rw [show (List.isEmpty (⟨false,[(2:Int)]⟩:Sl Int).l)=false from rfl,f,j,q];rw [j,q] at r;exact⟨nl,by simp,fun e=>by have:=r e; simp at this⟩
  rw [oZ,Lp,Lp,oB,A9,A9];cases h1:fz a.av.l
  ·obtain⟨nl,h2,g⟩:=key o (by omega) hz;exact⟨nl,by simp only [a_]; simp only [Bool.false_eq_true,if_false,Bool.and_false,cond_false]; rw [h2,wk,h1]; simp,fun e=>by rw [wk,h1]; simpa using g e⟩
  ·cases h2:fz b.av.l
   ·obtain⟨nl,f,g⟩:=key o (by omega) hz;exact⟨nl,by simp only [a_]; simp only [if_true,oB,Bool.and_false,cond_false]; rw [f,wk,h1,h2]; simp,fun e=>by rw [wk,h1,h2]; simpa using g e⟩
   ·obtain⟨nl,f,g⟩:=key ⟨o.aa,⟨o.av.nl&&false,o.av.l++[1]⟩⟩ (by simp only [List.length_append,List.length_singleton]; omega) (by simp);refine⟨nl, ?_,fun e=>by have:=g e; simp at this⟩;simp only [a_,if_true,oB,Bool.and_self,cond_true];rw [fU (by decide) (by simp; omega),oB];rw [show (List.isEmpty (⟨false,[(1:Int)]⟩:Sl Int).l)=false from rfl,f,wk,h1,h2]
    simp
theorem TO {a b:ax}(f:bX a.av) (g:bX b.av):∃nl,BG a b=some (bif (a.aa==b.aa&&decide (j6 a.av.l=j6 b.av.l)) then(⟨a.aa,⟨nl,wk F0 a.av.l b.av.l⟩⟩,true) else(⟨[],Sl.nil⟩,false))/\(nl=true->wk F0 a.av.l b.av.l=[]):=by
 have hl:=f.2;obtain⟨nl,h1,h2⟩:=Ln F0 a b ax.zero ⟨a.aa,Sl.nil⟩ (by rw [ep]; omega) f g (by simp [Sl.nil]; omega) (fun _=>rfl);refine⟨nl, ?_,fun e=>by simpa [Sl.nil] using h2 e⟩;unfold BG BH;rw [TP,TL f g,oB,h1];cases (a.aa==b.aa&&decide (j6 a.av.l=j6 b.av.l))<;>simp [Sl.nil]
theorem TQ {a b:ax}(f:bX a.av) (g:bX b.av):∃nl,BG a b=some (bif (a.aa==b.aa&&decide (j6 a.av.l=j6 b.av.l)) then(⟨a.aa,⟨nl,wk F0 a.av.l b.av.l⟩⟩,true) else(⟨[],Sl.nil⟩,false)) :=
 let ⟨nl,h,_⟩:=TO f g; ⟨nl,h⟩
theorem TR {a b:ax}(g:bX a.av) (j:bX b.av):yO a b=some ((a.aa==b.aa&&decide (j6 a.av.l=j6 b.av.l))&&decide (wk F0 a.av.l b.av.l=b.av.l)):=by
 obtain⟨nl,h⟩:=TQ g j;unfold yO;rw [h,oB];cases f:(a.aa==b.aa&&decide (j6 a.av.l=j6 b.av.l))
 ·simp [a_]
 ·have hn:(a.aa==b.aa)=true:=by simp only [Bool.and_eq_true] at f; exact f.1
  simp only [a_,cond_true,if_true];unfold sM;rw [hn,Fh];simp [a_]
theorem all_cons {α:Type}{P:α->Prop}{a:α}{r:List α}(h:P a) (h2:∀x∈r,P x):∀x∈a::r,P x:=fun x hx=>by
 rcases List.mem_cons.1 hx with rfl|hx
 ·exact h
 ·exact h2 x hx
theorem Lq {f:bN->Bool}:∀(l:List bN) (n:Nat),(∃i:Nat,∃h:i<l.length,qV f l n=Sum.inr ((n+i:Nat):Int)/\f l[i]=true)\/(qV f l n=Sum.inl ()/\∀x∈l,f x=false)
 | [],n=>.inr ⟨rfl,fun _ h=>by cases h⟩
 | a::r,n=>by
  rw [qV];simp only [on];cases h:f a
  ·rw [cond_false];rcases Lq (f:=f) r (n+1) with ⟨i,hi,b,g⟩|⟨b,g⟩
   ·exact .inl ⟨i+1,by simp only [List.length_cons]; omega,by rw [b]; congr 2; omega,g⟩
   ·exact .inr ⟨b,all_cons h g⟩
  ·exact .inl ⟨0,by simp,rfl,h⟩
theorem TS (s:Sl bN) (f:bN->Bool):(∃i:Nat,∃h:i<s.l.length,td s f=(i:Int)/\f s.l[i]=true)\/(td s f = -1/\∀x∈s.l,f x=false):=by
 unfold td;rcases Lq (f:=f) s.l 0 with ⟨i,h,b,g⟩|⟨b,g⟩
 ·exact .inl ⟨i,h,by rw [b]; simp [on],g⟩
 ·exact .inr ⟨by rw [b]; rfl,g⟩
def BJ (d:an):Prop:=∀t∈d.aA.l,(∀i∈t.bG.l,bX i.aM.av)/\∀f∈t.bA.l,∀i∈f.aG.l,bX i.aM.av
theorem Lr (s:Bs):∀l:List ay,lN s l=Sum.inl ()\/∃t∈l,lN s l=Sum.inr (t,true)
 | []=>.inl rfl
 | a::r=>by
  rw [lN];simp only [on];cases a.aa==s
  ·rcases Lr s r with h|⟨t,h1,h2⟩
   ·exact .inl h
   ·exact .inr ⟨t,.tail _ h1,h2⟩
  ·exact .inr ⟨a,.head _,rfl⟩
theorem FC (d:an) (s:Bs):((cL d s).1.bG.l=[]/\(cL d s).1.bA.l=[])\/(cL d s).1∈d.aA.l:=by
 unfold cL;rcases Lr s d.aA.l with h|⟨t,h1,h2⟩
 ·rw [h]; exact .inl ⟨rfl,rfl⟩
 ·rw [h2]; exact .inr h1
theorem Ls (s:Bs):∀l:List az,lQ s l=Sum.inl ()\/∃t∈l,lQ s l=Sum.inr (t,true)
 | []=>.inl rfl
 | a::r=>by
  rw [lQ];simp only [on];cases a.aa==s
  ·rcases Ls s r with h|⟨t,h1,h2⟩
   ·exact .inl h
   ·exact .inr ⟨t,.tail _ h1,h2⟩
  ·exact .inr ⟨a,.head _,rfl⟩
theorem BK:bX ax.zero.av:=⟨fun _=>rfl,by show 0<=_; omega⟩
theorem Lt {s:Sl az}(h:∀i∈s.l,bX i.aM.av) (n:Bs):bX (iq s n).1.aM.av:=by
 unfold iq;rcases Ls n s.l with e|⟨t,h1,h2⟩
 ·rw [e]; exact BK
 ·rw [h2]; exact h t h1
theorem Lu (s:Bs):∀l:List aT,lP s l=Sum.inl ()\/∃t∈l,lP s l=Sum.inr (t,true)
 | []=>.inl rfl
 | a::r=>by
  rw [lP];simp only [on];cases a.aa==s
  ·rcases Lu s r with h|⟨t,h1,h2⟩
   ·exact .inl h
   ·exact .inr ⟨t,.tail _ h1,h2⟩
  ·exact .inr ⟨a,.head _,rfl⟩
theorem TT {t:ay}(h:∀f∈t.bA.l,∀i∈f.aG.l,bX i.aM.av) (n:Bs):∀i∈(kM t n).1.aG.l,bX i.aM.av:=by
 unfold kM;rcases Lu n t.bA.l with e|⟨f,h1,h2⟩
 ·rw [e]; intro i hi; cases hi
 ·rw [h2]; exact h f h1
theorem BL {t:ax}(hw:t.wf) (b:t.sz<=1048576):bX t.av:=⟨hw.2.1.1,by have:=ax.uO t; omega⟩
theorem Lv {d:an}{t:ay}(h:t∈d.aA.l):t.sz<=d.sz:=by
 have h1:=d.bH;have h2:=Sl.dh (f:=ay.sz) h;omega
theorem TU {d:an}(hw:d.wf) (k:d.sz<=1048576):BJ d:=by
 intro t ht;have h0:=Lv ht;have b:=(an.AL hw).2.2 t ht;have h1:=t.bH;refine⟨fun i hi=>?_,fun f g i hi=>?_⟩
 ·have h2:=Sl.dh (f:=az.sz) hi;have j:=i.bH;exact BL (az.nU ((ay.Ed b).2.2 i hi)) (by omega)
 ·have h2:=Sl.dh (f:=aT.sz) g;have j:=f.bH;have l:=Sl.dh (f:=az.sz) hi;have m:=i.bH;exact BL (az.nU ((aT.Jk ((ay.Ec b).2.2 f g)).2.2 i hi)) (by omega)
theorem TV {d:an}(hw:d.wf) (k:d.sz<=1048576):vq (1048575+1) d:=by
 intro b;rcases FC d b with ⟨e,-⟩|ht
 ·rw [e]; exact⟨fun _ h=>(by cases h),by show 0<=_; omega⟩
 ·generalize (cL d b).1=t at ht;have h0:=Lv ht;have j:=(an.AL hw).2.2 t ht;have h1:=t.bH;have hl:=Sl.gQ (f:=az.sz) t.bG (fun x=>az.pos x);refine⟨fun i hi=>?_,by omega⟩;have h2:=Sl.dh (f:=az.sz) hi;have l:=i.bH;have g:=(ay.Ed j).2.2 i hi;exact⟨BL (az.nU g) (by omega),Wv.of _ _ (by omega) (by omega) (az.Eb g)⟩
theorem TW {q:aR}(hw:q.wf) (k:q.sz<=1048576):∀o∈q.bw.l,∀x∈o.fe.l,bX x.aM.av/\Wv (1048575+1) x.dZ:=by
 intro o b x hx;have h0:=q.bH;have h1:=Sl.dh (f:=bJ.sz) b;have h2:=o.bH;have m:=Sl.dh (f:=bN.sz) hx;have p:=x.bH;have j:=(aR.Qn hw).2.2 o b;have g:=(bJ.Qm j).2.2 x hx;exact⟨BL (bN.nU g) (by omega),Wv.of _ _ (by omega) (by omega) (bN.Eb g)⟩
theorem FD:∀s t:Bs,Lib.compareBytes s t=0↔s=t
 | [],[]=>by simp [Lib.compareBytes]
 | [],_::_=>by simp [Lib.compareBytes]
 | _::_,[]=>by simp [Lib.compareBytes]
 | a::r,b::q=>by
  rw [Lib.compareBytes];by_cases h1:a<b
  ·rw [if_pos h1];exact⟨fun h=>(by cases h),fun h=>by cases h; exact absurd h1 (UInt8.lt_irrefl _)⟩
  ·rw [if_neg h1];by_cases h2:b<a
   ·rw [if_pos h2];exact⟨fun h=>(by cases h),fun h=>by cases h; exact absurd h2 (UInt8.lt_irrefl _)⟩
   ·rw [if_neg h2,FD r q];have:a=b:=UInt8.le_antisymm (UInt8.not_lt.1 h2) (UInt8.not_lt.1 h1);rw [this]; simp
theorem FE (a b:Int):∃c,tf a b=some c/\(c=0↔a=b):=by
 rw [TX]; unfold BM yP;simp only [on,decide_true,Bool.not_true,oB,cond_false];by_cases h1:a<b
 ·rw [dT h1]; exact⟨-1,rfl,⟨fun h=>(by cases h),fun h=>by omega⟩⟩
 ·rw [dF h1];by_cases h2:b<a
  ·rw [dT h2]; exact⟨1,rfl,⟨fun h=>(by cases h),fun h=>by omega⟩⟩
  ·rw [dF h2]; exact⟨0,rfl,⟨fun _=>by omega,fun _=>rfl⟩⟩
theorem Lw (v:af) (i:Nat):vv v (i:Int)=some (v.aX.l.getD i []):=by
 rw [TY]; unfold BN;by_cases h:i<v.aX.l.length
 ·have b:dc v.aX.l (i:Int)=some v.aX.l[i]:=by unfold dc; rw [if_pos (by omega),Int.toNat_natCast,List.getElem?_eq_getElem h]
  rw [dT (by omega:((i:Nat):Int)<((v.aX.l.length:Nat):Int)),cond_true,b,oB,List.getD_eq_getElem?_getD,List.getElem?_eq_getElem h]; rfl
 ·rw [dF (by omega:¬((i:Nat):Int)<((v.aX.l.length:Nat):Int)),cond_false,List.getD_eq_getElem?_getD,List.getElem?_eq_none (by omega)]; rfl
def AtR (R:af->af->Prop) (v w:af) (j:Nat):Prop:=v.aX.l.getD j []=w.aX.l.getD j []/\∃x y,v.aB.l[j]?=some x/\w.aB.l[j]?=some y/\R x y
def yQ:Nat->af->af->Prop
 | 0,_,_=>False
 | n+1,v,w=>v.aj=w.aj/\v.bL=w.bL/\v.bK=w.bK/\v.aB.l.length=w.aB.l.length/\∀j,0<=j->j<v.aB.l.length->AtR (yQ n) v w j
theorem Lx {v w:af}{rec:af->af->Option Int}{k:Int->Int->Option Int}{n:Nat}(hk:∀z,k z 1=some z) (u:∀x∈v.aB.l,∀y∈w.aB.l,∃c,rec x y=some c/\(c=0↔yQ n x y)) (hl:v.aB.l.length<=1048576) :
  ∀(f i:Nat),i<=min v.aB.l.length w.aB.l.length->min v.aB.l.length w.aB.l.length-i<f ->
   ∃c,vw v w 0 k rec f (i:Int)=some c/\(c=0↔(v.aB.l.length=w.aB.l.length/\∀j,i<=j->j<v.aB.l.length->AtR (yQ n) v w j))
 | 0,_,_,h=>by omega
 | f+1,i,h1,h2=>by
  have hm:(if ((w.aB.l.length:Nat):Int)<((v.aB.l.length:Nat):Int) then((w.aB.l.length:Nat):Int) else((v.aB.l.length:Nat):Int))=((min v.aB.l.length w.aB.l.length:Nat):Int):=by split<;>omega
  rw [vw,hm];by_cases hi:i<min v.aB.l.length w.aB.l.length
  ·have g:i<v.aB.l.length:=by omega
   have p:i<w.aB.l.length:=by omega
   have E:dc v.aB.l (i:Int)=some v.aB.l[i]:=by unfold dc; rw [if_pos (by omega),Int.toNat_natCast,List.getElem?_eq_getElem g]
   have F:dc w.aB.l (i:Int)=some w.aB.l[i]:=by unfold dc; rw [if_pos (by omega),Int.toNat_natCast,List.getElem?_eq_getElem p]
   have G:cV (i:Int) 1=some ((i+1:Nat):Int):=by rw [fq (by omega)]; rfl
   rw [dT (by omega:((i:Nat):Int)<((min v.aB.l.length w.aB.l.length:Nat):Int)),cond_true,Lw,oB,Lw,oB,show yR (v.aX.l.getD i []) (w.aX.l.getD i [])=some (Lib.compareBytes (v.aX.l.getD i []) (w.aX.l.getD i [])) from rfl,oB];have hc:=FD (v.aX.l.getD i []) (w.aX.l.getD i []);by_cases q:Lib.compareBytes (v.aX.l.getD i []) (w.aX.l.getD i [])=0
   ·rw [dT q,Bool.not_true,cond_false,E,oB,F,oB];obtain⟨c,t,r⟩:=u _ (List.getElem_mem g) _ (List.getElem_mem p);rw [t,oB];by_cases c1:c=0
    ·rw [dT c1,Bool.not_true,cond_false,G,oB];obtain⟨z,H,z2⟩:=Lx hk u hl f (i+1) (by omega) (by omega);refine⟨z,H,z2.trans ⟨fun⟨m,b⟩=>⟨m,fun j B s=>?_⟩,fun⟨m,b⟩=>⟨m,fun j B s=>b j (by omega) s⟩⟩⟩;rcases Nat.lt_or_ge i j with C|C
     ·exact b j C s
     ·obtain rfl:j=i:=by omega
      exact⟨hc.1 q,_,_,List.getElem?_eq_getElem g,List.getElem?_eq_getElem p,r.1 c1⟩
    ·rw [dF c1,Bool.not_false,cond_true];refine⟨c,rfl,⟨fun h=>absurd h c1,fun⟨m,b⟩=>?_⟩⟩;obtain⟨_,x,y,g1,g2,g3⟩:=b i (Nat.le_refl _) g;rw [List.getElem?_eq_getElem g] at g1; rw [List.getElem?_eq_getElem p] at g2;cases g1; cases g2;exact r.2 g3
   ·rw [dF q,Bool.not_false,cond_true];refine⟨_,rfl,⟨fun h=>absurd h q,fun⟨m,b⟩=>hc.2 (b i (Nat.le_refl _) g).1⟩⟩
  ·rw [dF (by omega:¬((i:Nat):Int)<((min v.aB.l.length w.aB.l.length:Nat):Int)),cond_false];obtain⟨c,t,r⟩:=FE ((v.aB.l.length:Nat):Int) ((w.aB.l.length:Nat):Int);unfold BO BP;rw [t,oB,fq (by omega),oB];refine⟨c,hk c,r.trans ⟨fun h=>⟨by omega,fun j B s=>by omega⟩,fun⟨h,_⟩=>by rw [h]⟩⟩
theorem TZ (n:Nat):∀v w:af,v.sz<n->v.sz<=1048576->∃c,i_ n v w=some c/\(c=0↔yQ n v w):=by
 induction n with
 | zero=>intro v w h; omega
 | succ n q =>
  intro v w hn r;have hd:=v.bH;have hi:Sl.sz af.sz v.aB=1+(v.aB.l.map af.sz).sum:=rfl;have hl:=Sl.gQ (f:=af.sz) v.aB (fun x=>x.pos);obtain⟨m,hm⟩:∃m,F0=m+1+1:=⟨F0-2,by rw [ep]⟩;rw [i_,show kV v w (i_ n) F0 0 0=kV v w (i_ n) (m+1+1) 0 0 from by rw [<- hm],kV,show decide ((0:Int)<1)=true from rfl,cond_true];by_cases c1:v.aj=w.aj
  ·rw [dT c1,Bool.not_true,cond_false];by_cases c2:v.bL=w.bL
   ·rw [dT c2,Bool.not_true,cond_false];by_cases c3:v.bK=w.bK
    ·rw [beq_iff_eq.mpr c3,Bool.not_true,cond_false];obtain⟨c,b,g⟩:=Lx (v:=v) (w:=w) (rec:=i_ n) (k:=kV v w (i_ n) (m+1)) (n:=n) (fun z=>by rw [kV,show decide ((1:Int)<1)=false from rfl,cond_false]; rfl)
      (fun x hx y _=>q x y (by have:=af.nZ hx; omega) (by have:=af.nZ hx; omega)) (by omega) F0 0 (Nat.zero_le _) (by rw [ep]; omega)
     exact⟨c,b,g.trans ⟨fun⟨j,p⟩=>⟨c1,c2,c3,j,p⟩,fun⟨_,_,_,j,p⟩=>⟨j,p⟩⟩⟩
    ·rw [show (v.bK==w.bK)=false from beq_eq_false_iff_ne.mpr c3,Bool.not_false,cond_true,show yR v.bK w.bK=some (Lib.compareBytes v.bK w.bK) from rfl,oB];exact⟨_,rfl,⟨fun h=>absurd ((FD _ _).1 h) c3,fun⟨_,_,h,_⟩=>absurd h c3⟩⟩
   ·obtain⟨c,b,g⟩:=FE v.bL w.bL;rw [dF c2,Bool.not_false,cond_true,b,oB];exact⟨c,rfl,⟨fun h=>absurd (g.1 h) c2,fun⟨_,h,_⟩=>absurd h c2⟩⟩
  ·obtain⟨c,b,g⟩:=FE v.aj w.aj;rw [dF c1,Bool.not_false,cond_true,b,oB];exact⟨c,rfl,⟨fun h=>absurd (g.1 h) c1,fun⟨h,_⟩=>absurd h c1⟩⟩
def yS (v w:af):Bool:=(tg v w).getD false
theorem T0 {v w:af}(hv:v.sz<=1048576):tg v w=some (yS v w)/\(yS v w=true↔yQ F0 v w):=by
 obtain⟨c,b,f⟩:=TZ F0 v w (by rw [ep]; omega) hv;have e:tg v w=some (decide (c=0)):=by unfold tg FF; rw [b]; rfl
 have g:yS v w=decide (c=0):=by unfold yS; rw [e]; rfl
 rw [g];exact⟨e,by rw [decide_eq_true_iff]; exact f⟩
def VW (v:af):Prop:=∃m,m<=1048576/\Wv m v
theorem VW.of {v:af}(h:v.sz<=1048576) (hw:v.wf):VW v:=⟨v.sz,h,Wv.of _ v (Nat.le_refl _) h hw⟩
theorem VW.item {v x:af}(h:VW v) (hx:x∈v.aB.l):VW x:=by
 obtain⟨m,hm,h⟩:=h;cases m with
 | zero=>exact h.elim
 | succ m=>exact⟨m,by omega,h.2.2.2.2 x hx⟩
theorem VW.int {v:af}(h:VW v) : -9223372036854775808<=v.bL/\v.bL<=9223372036854775807:=by
 obtain⟨m,hm,h⟩:=h;cases m with
 | zero=>exact h.elim
 | succ m=>exact h.1
theorem VW.len {v:af}(h:VW v):v.aB.l.length<=bB:=by
 obtain⟨m,hm,h⟩:=h;cases m with
 | zero=>exact h.elim
 | succ m=>exact h.2.2.2.1
def cW:af:=af.mk 0 0 [] true [] Sl.nil
theorem VW.nil:VW cW:=⟨1,by decide,⟨by decide,by decide⟩,fun _=>rfl,Nat.zero_le _,Nat.zero_le _,fun _ h=>(by cases h)⟩
theorem Ly:∀(n:Nat){v:af},Wv n v->∀m,2*n<=m->∃r,l9 m v=some r/\Wv n r
 | 0,_,h,_,_=>h.elim
 | n+1,v,⟨h2,C,k,p,u⟩,m,hm=>by
  obtain⟨m1,rfl⟩:∃m1,m=m1+1+1:=⟨m-2,by omega⟩;have hl:∀(l:List af) (s:Sl af),(∀x∈l,Wv n x)->(∀x∈s.l,Wv n x)->s.l.length+l.length<=bB->∃b:Sl af,qW (l9 m1) l s=some b/\(∀x∈b.l,Wv n x)/\b.l.length=s.l.length+l.length:=by
   intro l;induction l with
   | nil=>intro s _ f _; exact⟨s,rfl,f,rfl⟩
   | cons a t w =>
    intro s hl f q;obtain⟨r,hr,y⟩:=Ly n (hl a (.head _)) m1 (by omega);rw [qW];simp only [on,hr,oB];simp only [List.length_cons] at q;rw [vl (by unfold bB at q; simp; omega),oB];obtain⟨b,g,j,z⟩:=w ⟨s.nl&&[r].isEmpty,s.l++[r]⟩ (fun x hx=>hl x (.tail _ hx)) (fun x hx=>by
     rcases List.mem_append.1 hx with hx|hx
     ·exact f x hx
     ·rw [List.mem_singleton.1 hx]; exact y) (by simp; omega)
    exact⟨b,g,j,by rw [z]; simp; omega⟩
  obtain⟨b,g,j,B⟩:=hl v.aB.l Sl.nil u (fun _ h=>by cases h) (by simpa [Sl.nil] using p);rw [l9,yT,g,oB];simp only [on,oB];rw [fU (by decide) (by unfold bB at k; simp; omega),oB];refine⟨_,rfl,⟨h2,fun e=>Bool.noConfusion (show false=true from e), ?_, ?_,j⟩⟩
  ·show ([]++v.aX.l).length<=_; rw [List.nil_append]; exact k
  ·show b.l.length<=_; rw [B]; simpa [Sl.nil] using p
theorem T3 {v:af}(h:VW v):∃r,Lz v=some r/\VW r:=by
 obtain⟨m,hm,h⟩:=h;obtain⟨r,e,w⟩:=Ly m h F0 (by rw [ep]; omega);exact⟨r,e,m,hm,w⟩
theorem T4 {v:af}(h:VW v) (s:Bs):∃x b,qX v s=some (x,b)/\VW x:=by
 have loop:∀(l:List Bs) (i:Nat),∃o,qY v s l i=some o/\(match o with|Sum.inl _=>True|Sum.inr p=>VW p.1):=by
  intro l;induction l with
  | nil=>intro i; exact⟨_,rfl,trivial⟩
  | cons a r f =>
   intro i;rw [qY];simp only [on];cases a==s
   ·exact f (i+1)
   ·rw [cond_true];by_cases hi:v.aB.l.length<=i
    ·rw [dT (by omega:((v.aB.l.length:Nat):Int)<=((i:Nat):Int)),cond_true];exact⟨_,rfl,VW.nil⟩
    ·have hi:i<v.aB.l.length:=by omega
     obtain⟨r,e,w⟩:=T3 (h.item (List.getElem_mem hi));rw [dF (by omega:¬((v.aB.l.length:Nat):Int)<=((i:Nat):Int)),cond_false,List.getElem?_eq_getElem hi,oB,e,oB];exact⟨_,rfl,w⟩
 unfold qX;cases (!decide (v.aj=(6:Int)))
 ·obtain⟨o,e,w⟩:=loop v.aX.l 0;rw [cond_false,e,oB];cases o with
  | inl u=>exact⟨_,_,rfl,VW.nil⟩
  | inr p=>exact⟨p.1,p.2,rfl,w⟩
 ·exact⟨_,_,rfl,VW.nil⟩
theorem FH (s:Bs):qX cW s=some (cW,false):=rfl
theorem LA (l:Sl az){i:Nat}(hi:i<l.l.length):∀(n k:Nat),k<=i->i-k<n->i<=1048576->∃b,vz l (i:Int) n (k:Int)=some b
 | 0,_,_,h,_=>by omega
 | n+1,k,h1,h2,f=>by
  rw [vz];by_cases hk:k<i
  ·have g:dc l.l (k:Int)=some l.l[k]:=by unfold dc; rw [if_pos (by omega),Int.toNat_natCast,List.getElem?_eq_getElem (by omega)]
   have j:dc l.l (i:Int)=some l.l[i]:=by unfold dc; rw [if_pos (by omega),Int.toNat_natCast,List.getElem?_eq_getElem hi]
   have m:cV (k:Int) 1=some ((k+1:Nat):Int):=by rw [fq (by omega)]; rfl
   rw [dT (by omega:((k:Nat):Int)<((i:Nat):Int)),cond_true,g,oB,j,oB];cases l.l[k].aa==l.l[i].aa
   ·rw [cond_false,m,oB]; exact LA l hi n (k+1) (by omega) (by omega) f
   ·exact⟨true,rfl⟩
  ·rw [dF (by omega:¬((k:Nat):Int)<((i:Nat):Int)),cond_false];unfold BQ;exact⟨_,rfl⟩
theorem T5 (l:Sl az){i:Nat}(hi:i<l.l.length) (h:l.l.length<=1048576):∃b,FI l (i:Int)=some b:=by
 unfold FI BR;exact LA l hi F0 0 (Nat.zero_le _) (by rw [ep]; omega) (by omega)
def Wk (d:an) (c:Z7):Prop:=c.Fd=d/\c.dG=cW/\True/\0<=c.fM/\c.fM<=4097/\(c.eE=0->c.fM<=4096)
theorem qZ {d:an}{c:Z7}(h:Wk d c){e:Int}(he:e≠0):Wk d (iw c e):=by
 obtain⟨a,b,l,f,c1,c2⟩:=h;unfold iw;cases decide (c.eE=0)
 ·exact⟨a,b,l,f,c1,c2⟩
 ·exact⟨a,b,l,f,c1,fun h=>absurd h he⟩
theorem T6 {d:an}{c:Z7}(h:Wk d c) (h0:c.eE=0) (L:Int):∃c',th c L=some c'/\Wk d c'/\(c'.eE=0->L<=24):=by
 have k:∀c1:Z7,c1.Fd=d->c1.dG=cW->True->0<=c1.fM->c1.fM<=4096->(c1.eE=0->L<=24) ->
   ∃c',((cV c1.fM (1:Int)).bind fun f=>bif (decide ((4096:Int)<f)) then(on (iw (Z7.mk c1.Fd c1.dG c1.gU f c1.eE) (4:Int)) fun r=>some r) else(some (Z7.mk c1.Fd c1.dG c1.gU f c1.eE)))=some c'/\Wk d c'/\(c'.eE=0->L<=24):=by
  intro c1 g a2 a3 a4 a5 m;rw [fq (by omega),oB];by_cases p:4096<c1.fM+1
  ·rw [dT p,cond_true];simp only [on];unfold iw;simp only [];by_cases j:c1.eE=0
   ·rw [dT j];exact⟨_,rfl,⟨g,a2,a3,by show 0<=c1.fM+1; omega,by show c1.fM+1<=4097; omega,fun h=>(by cases h)⟩,fun h=>(by cases h)⟩
   ·rw [dF j];exact⟨_,rfl,⟨g,a2,a3,by show 0<=c1.fM+1; omega,by show c1.fM+1<=4097; omega,fun h=>absurd h j⟩,m⟩
  ·rw [dF p];exact⟨_,rfl,⟨g,a2,a3,by show 0<=c1.fM+1; omega,by show c1.fM+1<=4097; omega,fun _=>by show c1.fM+1<=4096; omega⟩,m⟩
 obtain⟨a,b,l,q,c1,c2⟩:=h;unfold th;by_cases hl:24<L
 ·rw [dT hl];simp only [cond_true,on];refine k _ ?_ ?_ trivial ?_ ?_ ?_<;>unfold iw<;>rw [dT h0]
  ·exact a
  ·exact b
  ·exact q
  ·exact c2 h0
  ·exact fun h=>(by cases h)
 ·rw [dF hl];simp only [cond_false,on];exact k c a b l q (c2 h0) fun _=>by omega
def tj (d:an) (n:Nat) (L:Int):Prop:=∀(c:Z7) (t:ax) (v:af),Wk d c->c.eE=0->VW v->t.av.l.length<=1048576->∃x c',gG n c t v L=some (x,c')/\Wk d c'
theorem T7 {d:an}{n:Nat}{L:Int}(k:0<=L/\L<=100) (hc:tj d n (L+1)){c:Z7}{t:ax}{v:af}(hk:Wk d c) (hv:VW v) (ht:t.av.l.length<=1048576):∃x c',tr (n+1) c t v L=some (x,c')/\Wk d c':=by
 have loop:∀(l:List af) (c:Z7) (o:af),Wk d c->(∀x∈l,VW x)->o.aB.l.length+l.length<=2*bB->∃c' o',nj t L (gG n) l c o=some (c',o')/\Wk d c':=by
  intro l;induction l with
  | nil=>intro c o hk _ _; exact⟨c,o,rfl,hk⟩
  | cons a r g =>
   intro c o hk hx b;simp only [List.length_cons] at b;rw [nj];by_cases he:c.eE=0
   ·rw [dT he,cond_true];simp only [on];obtain⟨x,c',e,w⟩:=hc c t a hk he (hx a (.head _)) ht;rw [fq (by omega),oB,e,oB,vl (by unfold bB at b; simp only [List.length_cons,List.length_nil]; omega),oB];refine g c' _ w (fun x j=>hx x (.tail _ j)) ?_;show (o.aB.l++[x]).length+r.length<=_;rw [List.length_append,List.length_singleton]; omega
   ·rw [dF he]; exact⟨c,o,rfl,hk⟩
 rw [tr];simp only [on];have fin:∀l:Sl af,(∀x∈l.l,VW x)->l.l.length<=bB->∃x c',(Option.bind (nj t L (gG n) l.l c (af.mk 5 0 [] true [] Sl.nil)) fun f=>some (f.2,f.1))=some (x,c')/\Wk d c':=by
  intro l h1 h2;obtain⟨c',o',e,w⟩:=loop l.l c (af.mk 5 0 [] true [] Sl.nil) hk h1 (by show 0+l.l.length<=_; unfold bB at h2 ⊢; omega);rw [e]; exact⟨_,_,rfl,w⟩
 cases decide (v.aj=(5:Int))
 ·exact fin ⟨false,[v]⟩ (fun x hx=>by rw [List.mem_singleton.1 hx]; exact hv) (by unfold bB; simp)
 ·exact fin v.aB (fun x hx=>hv.item hx) hv.len
def q5 (d:an):Prop:=∀t∈d.aA.l,t.bG.l.length<=1048576/\∀x∈t.bG.l,VW x.dZ/\x.aM.av.l.length<=1048576
theorem LB {d:an}(t:ay):∀(l:List Bs) (c:Z7),Wk d c->Wk d (l_ t l c)
 | [],c,h=>by rw [l_]; exact h
 | a::r,c,h=>by
  rw [l_];simp only [on];refine LB t r _ ?_;cases (lE t.bG a).2
  ·exact qZ h (by decide)
  ·exact h
theorem T8 {d:an}{n:Nat}{L:Int}(U:0<=L/\L<=100) (hc:tj d (n+1) (L+1)) (B:tj d n (L+1)){c:Z7}{t:ay}{v:af}(hk:Wk d c) (hv:VW v) (hl:t.bG.l.length<=1048576) (hi:∀x∈t.bG.l,VW x.dZ/\x.aM.av.l.length<=1048576):∃x c',tt (n+2) c t v L=some (x,c')/\Wk d c':=by
 have C:∀(c:Z7) (t:ax) (v:af),Wk d c->c.eE=0->VW v->t.av.l.length<=1048576->∃x c',j7 (n+1) c t v (L+1)=some (x,c')/\Wk d c':=by
  intro c t v hk he hv ht;obtain⟨x,c',e,w⟩:=B (Z7.mk c.Fd cW true c.fM c.eE) t v ⟨hk.1,rfl,trivial,hk.2.2.2.1,hk.2.2.2.2.1,hk.2.2.2.2.2⟩ he hv ht;rw [j7];have E:gG n (Z7.mk c.Fd (af.mk 0 0 [] true [] Sl.nil) true c.fM c.eE) t v (L+1)=some (x,c'):=e;rw [E];exact⟨_,_,rfl,⟨w.1,hk.2.1,hk.2.2.1,w.2.2.2.1,w.2.2.2.2.1,w.2.2.2.2.2⟩⟩
 have loop:∀(l:List az) (i:Nat) (c:Z7) (o:af),t.bG.l.drop i=l->Wk d c->o.aB.l.length+l.length<=2097152->o.aX.l.length+l.length<=2097152 ->
   ∃c' o',kW t v L (gG (n+1)) (j7 (n+1)) l i c o=some (c',o')/\Wk d c':=by
  intro l;induction l with
  | nil=>intro i c o _ hk _ _; exact⟨c,o,rfl,hk⟩
  | cons a r F =>
   intro i c o hd hk G H;obtain⟨h1,h2⟩:=RL hd;have I:i<t.bG.l.length:=(List.getElem?_eq_some_iff.1 h1).1;have k:=hi a (List.mem_of_getElem? h1);simp only [List.length_cons] at G H;rw [kW];by_cases he:c.eE=0
   ·rw [dT he,cond_true];simp only [on];obtain⟨b,J⟩:=T5 t.bG I hl;rw [J,oB];have p:∀(o':Option (Z7×af)),(∃c' z,o'=some (c',z)/\Wk d c'/\z.aB.l.length+r.length<=2097152/\z.aX.l.length+r.length<=2097152) ->
      ∃c' K,(Option.bind o' fun q=>kW t v L (gG (n+1)) (j7 (n+1)) r (i+1) q.1 q.2)=some (c',K)/\Wk d c':=by
     rintro _ ⟨c',z,rfl,w,M,N⟩;rw [oB];exact F (i+1) c' z h2 w M N
    have same:∃c' z,(some (c,o):Option (Z7×af))=some (c',z)/\Wk d c'/\z.aB.l.length+r.length<=2097152/\z.aX.l.length+r.length<=2097152:=⟨c,o,rfl,hk,by omega,by omega⟩;have add:∀(c':Z7) (x:af),Wk d c'->∃c2 z,((bq 16 o.aX (⟨false,[a.aa]⟩:Sl Bs)).bind fun j=>(bq 80 o.aB (⟨false,[x]⟩:Sl af)).bind fun f=>some (c',(af.mk o.aj o.bL o.bK f.nl f.l j)))=some (c2,z)/\Wk d c2/\z.aB.l.length+r.length<=2097152/\z.aX.l.length+r.length<=2097152:=by
     intro c' x w;rw [fU (by decide) (by simp only [List.length_cons,List.length_nil]; omega),oB,vl (by simp only [List.length_cons,List.length_nil]; omega),oB];refine⟨_,_,rfl,w, ?_, ?_⟩
     ·show (o.aB.l++[x]).length+r.length<=_; rw [List.length_append,List.length_singleton]; omega
     ·show (o.aX.l++[a.aa]).length+r.length<=_; rw [List.length_append,List.length_singleton]; omega
    cases b
    ·rw [cond_false];obtain⟨y,g,O,P⟩:=T4 hv a.aa;rw [O,oB];refine p _ ?_;have go:∀m:Bool,∃c' z,(bif (g&&(!m)) then((cV L (1:Int)).bind fun Q=>(gG (n+1) c a.aM y Q).bind fun s=>(bq 16 o.aX (⟨false,[a.aa]⟩:Sl Bs)).bind fun j=>(bq 80 o.aB (⟨false,[s.1]⟩:Sl af)).bind fun f=>some (s.2,(af.mk o.aj o.bL o.bK f.nl f.l j))) else(bif a.eC then((cV L (1:Int)).bind fun R=>(j7 (n+1) c a.aM a.dZ R).bind fun u=>(bq 16 o.aX (⟨false,[a.aa]⟩:Sl Bs)).bind fun j=>(bq 80 o.aB (⟨false,[u.1]⟩:Sl af)).bind fun f=>some (u.2,(af.mk o.aj o.bL o.bK f.nl f.l j))) else(bif iD a.aM then((bq 16 o.aX (⟨false,[a.aa]⟩:Sl Bs)).bind fun j=>(bq 80 o.aB (⟨false,[af.zero]⟩:Sl af)).bind fun f=>some (iw c (22:Int),(af.mk o.aj o.bL o.bK f.nl f.l j))) else(some (c,o)))))=some (c',z)/\Wk d c'/\z.aB.l.length+r.length<=2097152/\z.aX.l.length+r.length<=2097152:=by
      intro m;cases (g&&!m)
      ·rw [cond_false];cases a.eC
       ·rw [cond_false];cases iD a.aM
        ·exact same
        ·exact add _ _ (qZ hk (by decide))
       ·obtain⟨x,c',e,w⟩:=C c a.aM a.dZ hk he k.1 k.2;rw [cond_true,fq (by omega),oB,e,oB];exact add c' x w
      ·obtain⟨x,c',e,w⟩:=hc c a.aM y hk he P k.2;rw [cond_true,fq (by omega),oB,e,oB];exact add c' x w
     have S:∃m,q6 c y=some m:=by
      unfold q6;cases ((!c.gU)||(!decide (y.aj=(7:Int))))
      ·rw [cond_false,hk.2.1,FH]; exact⟨_,rfl⟩
      ·exact⟨_,rfl⟩
     obtain⟨m,em⟩:=S;rw [em];cases g
     ·exact go false
     ·exact go m
    ·exact p _ same
   ·rw [dF he]; exact⟨c,o,rfl,hk⟩
 rw [tt];cases (!decide (v.aj=(6:Int)))
 ·rw [cond_false];simp only [on];obtain⟨c',o',e,w⟩:=loop t.bG.l 0 (l_ t v.aX.l c) (af.mk 6 0 [] true [] Sl.nil) rfl (LB t _ c hk) (by show 0+t.bG.l.length<=_; omega) (by show 0+t.bG.l.length<=_; omega);rw [e]; exact⟨_,_,rfl,w⟩
 ·exact⟨_,_,rfl,qZ hk (by decide)⟩
theorem T9 {d:an}{c:Z7}(hk:Wk d c) (s:Bs){v:af}(hv:VW v):∃x c',vA c s v=some (x,c')/\Wk d c':=by
 unfold vA;generalize (((((s==([73,110,116]:Bs)))&&(decide (v.aj=(2:Int))))&&(decide ((-2147483648:Int)<=v.bL)))&&(decide (v.bL<(2147483648:Int))))=b;cases b
 ·rw [cond_false];simp only [on];generalize (bif (((s==([83,116,114,105,110,103]:Bs)))&&(decide (v.aj=(3:Int)))) then((((s==([83,116,114,105,110,103]:Bs)))&&(decide (v.aj=(3:Int))))) else(bif (((s==([66,111,111,108,101,97,110]:Bs)))&&(decide (v.aj=(1:Int)))) then((((s==([66,111,111,108,101,97,110]:Bs)))&&(decide (v.aj=(1:Int))))) else((((s==([73,68]:Bs)))&&(decide (v.aj=(3:Int)))))))=f
  cases f
  ·rw [cond_false];cases (((s==([73,68]:Bs)))&&(decide (v.aj=(2:Int))))
   ·exact⟨_,_,rfl,qZ hk (by decide)⟩
   ·rw [cond_true,TA hv.int.1 hv.int.2]; exact⟨_,_,rfl,hk⟩
  ·exact⟨_,_,rfl,hk⟩
 ·exact⟨_,_,rfl,hk⟩
theorem T_ {d:an}{c:Z7}(hk:Wk d c) (t:ay) (v:af):Wk d (tu c t v).2:=by
 have loop:∀l:List bC,match o8 c v l with|Sum.inl _=>True|Sum.inr p=>Wk d p.2:=by
  intro l;induction l with
  | nil=>exact trivial
  | cons a r b =>
   rw [o8];simp only [on];cases a.aa==v.bK
   ·exact b
   ·exact hk
 unfold tu;simp only [on];cases ((decide (v.aj=(4:Int)))||((decide (v.aj=(3:Int)))&&(!c.gU)))
 ·exact qZ hk (by decide)
 ·rw [cond_true];have:=loop t.bV.l;cases h:o8 c v t.bV.l with
  | inl u=>exact qZ hk (by decide)
  | inr p=>rw [h] at this; exact this
theorem LC {d:an}(hd:q5 d){m:Nat}{L:Int}(p:0<=L/\L<=100) (h:L<=24->tj d (m+1) (L+1)/\tj d m (L+1)):tj d (m+3) L:=by
 intro c t v hk he hv ht;rw [gG];simp only [on];cases lF c.Fd t.aa
 ·exact⟨_,_,rfl,qZ hk (by decide)⟩
 ·rw [Bool.not_true,cond_false];obtain⟨c1,E,g,F⟩:=T6 hk he L;have q:∀v:af,VW v->∃x c',((th c L).bind fun f=>bif (!decide (f.eE=(0:Int))) then(some ((af.mk 0 0 [] true [] Sl.nil),f)) else(bif (decide (v.aj=(0:Int))) then(some ((af.mk 0 0 [] true [] Sl.nil),bif iD t then iw f (23:Int) else f)) else((mM t).bind fun r=>bif r.2 then(((tr (m+2)) f r.1 v L).bind fun s=>some (s.1,s.2)) else(bif fu t.aa then((vA f t.aa v).bind fun y=>some (y.1,y.2)) else(bif (decide ((fH f.Fd t.aa).1.aj=(4:Int))) then(some ((tu f (fH f.Fd t.aa).1 v).1,(tu f (fH f.Fd t.aa).1 v).2)) else(((tt (m+2)) f (fH f.Fd t.aa).1 v L).bind fun z=>some (z.1,z.2)))))))=some (x,c')/\Wk d c':=by
   intro v hv;rw [E,oB];by_cases k:c1.eE=0
   ·rw [dT k,Bool.not_true,cond_false];obtain⟨B,G⟩:=h (F k);cases decide (v.aj=(0:Int))
    ·rw [cond_false];obtain⟨u,b,H,hu⟩:=RP ht;rw [H,oB];cases b
     ·simp only [cond_false];cases fu t.aa
      ·rw [cond_false];cases decide ((fH c1.Fd t.aa).1.aj=(4:Int))
       ·rw [cond_false];have j:=RN c1.Fd t.aa;rw [g.1] at j ⊢;have C:(fH d t.aa).1.bG.l.length<=1048576/\∀x∈(fH d t.aa).1.bG.l,VW x.dZ/\x.aM.av.l.length<=1048576:=by
         rcases j with j|j
         ·exact hd _ j
         ·rw [j]; exact⟨Nat.zero_le _,fun _ h=>(by cases h)⟩
        obtain⟨x,c',e,w⟩:=T8 (n:=m) p B G g hv C.1 C.2;rw [e]; exact⟨_,_,rfl,w⟩
       ·exact⟨_,_,rfl,T_ g _ _⟩
      ·obtain⟨x,c',e,w⟩:=T9 g t.aa hv;rw [cond_true,e]; exact⟨_,_,rfl,w⟩
     ·simp only [cond_true];obtain⟨x,c',e,w⟩:=T7 (n:=m+1) (t:=u) p B g hv (by have:=hu rfl; omega);rw [e]; exact⟨_,_,rfl,w⟩
    ·rw [cond_true];refine⟨_,_,rfl, ?_⟩;cases iD t
     ·exact g
     ·exact qZ g (by decide)
   ·rw [dF k]; exact⟨_,_,rfl,g⟩
  cases (c.gU&&(decide (v.aj=(7:Int))))
  ·exact q v hv
  ·rw [cond_true,hk.2.1,FH,oB,show (!decide ((cW,false).1.aj=(0:Int)))=false from rfl,cond_false];exact q cW VW.nil
theorem FJ {d:an}(hd:q5 d):∀(k n:Nat) (L:Int),3*(k+1)<=n->25-(k:Int)<=L->0<=L->L<=25->tj d n L
 | 0,n,L,h1,h2,b,f=>by
  obtain⟨m,rfl⟩:∃m,n=m+3:=⟨n-3,by omega⟩;exact LC hd (by omega) fun h=>by omega
 | k+1,n,L,h1,h2,b,f=>by
  obtain⟨m,rfl⟩:∃m,n=m+3:=⟨n-3,by omega⟩;exact LC hd (by omega) fun h=>⟨FJ hd k (m+1) (L+1) (by omega) (by omega) (by omega) (by omega),FJ hd k m (L+1) (by omega) (by omega) (by omega) (by omega)⟩
theorem T' {d:an}(hd:q5 d){t:ax}{v:af}(hv:VW v) (ht:t.av.l.length<=1048576):∃r,vB d t v cW=some r:=by
 unfold vB;simp only [on];have j:∃m,q6 (Z7.mk d cW true 0 0) v=some m:=by
  unfold q6;cases ((!(Z7.mk d cW true 0 0).gU)||(!decide (v.aj=(7:Int))))
  ·rw [cond_false,FH]; exact⟨_,rfl⟩
  ·exact⟨_,rfl⟩
 obtain⟨m,em⟩:=j;rw [em];have run:∃r,((tA (Z7.mk d cW true 0 0) t v).bind fun f=>some (f.1,f.2.1))=some r:=by
  obtain⟨x,c',e,w⟩:=FJ hd 24 F0 1 (by rw [ep]; omega) (by omega) (by omega) (by omega) (Z7.mk d cW true 0 0) t v ⟨rfl,rfl,trivial,by show (0:Int)<=0; decide,by show (0:Int)<=4097; decide,fun _=>by show (0:Int)<=4096; decide⟩ rfl hv ht;unfold tA LD;rw [e,oB];cases (!decide ((x,c').2.eE=(0:Int)))<;>exact⟨_,rfl⟩
 have g:∀b:Bool,∃r,(bif (lF d t.aa&&b) then(some ((af.mk 0 0 [] true [] Sl.nil),(8:Int))) else((tA (Z7.mk d cW true 0 0) t v).bind fun f=>some (f.1,f.2.1)))=some r:=by
  intro b;cases (lF d t.aa&&b)
  ·exact run
  ·exact⟨_,rfl⟩
 have k:∀c:Bool,∃r,(a_ c (some m) false fun p=>bif (lF d t.aa&&p) then(some ((af.mk 0 0 [] true [] Sl.nil),(8:Int))) else((tA (Z7.mk d cW true 0 0) t v).bind fun f=>some (f.1,f.2.1)))=some r:=by
  intro c;cases c
  ·exact g false
  ·exact g m
 exact k _
theorem LF {d:an}(hd:q5 d){p q r:Bs}(b:p.length<=10000000) (hq:q.length<=10) (hr:r.length<=10):∀(l:List az) (s:Sl Z9),(∀x∈l,VW x.dZ/\x.aM.av.l.length<=1048576/\x.aa.length<=1048576)->s.l.length+l.length<=1000000000->Tl (o9 d p q r l s) (s.l.length+l.length)
 | [],s,_,_=>⟨s,rfl,by simp⟩
 | a::t,s,hx,h=>by
  obtain⟨h1,h2,j⟩:=hx a (.head _);simp only [List.length_cons] at h ⊢;rw [o9];simp only [on];refine Tl.bind (a:=s.l.length+1) ?_ fun u hu=>(LF hd b hq hr t u (fun x f=>hx x (.tail _ f)) (by omega)).mono (by omega);cases a.eC
  ·exact⟨s,rfl,by omega⟩
  ·rw [Bool.not_true,cond_false];obtain⟨z,e⟩:=T' hd h1 h2;have g:vB d a.aM a.dZ (af.mk 0 0 [] true [] Sl.nil)=some z:=e;rw [g,oB];cases (!decide (z.2=(0:Int)))
   ·exact⟨s,rfl,by omega⟩
   ·rw [cond_true,eY (by omega),oB,eY (by simp only [List.length_append]; omega),oB,eY (by simp only [List.length_append]; omega),oB];exact Tl.RM (by omega) (by omega)
theorem LG {d:an}(hd:q5 d) (l:Sl az){p q r:Bs}(b:p.length<=10000000) (hq:q.length<=10) (hr:r.length<=10) (hx:∀x∈l.l,VW x.dZ/\x.aM.av.l.length<=1048576/\x.aa.length<=1048576) (hl:l.l.length<=1048576):Tl (tB d l p q r) l.l.length:=by
 obtain⟨u,e,h⟩:=LF hd b hq hr l.l Sl.nil hx (by show 0+l.l.length<=_; omega);unfold tB;rw [e];exact⟨u,rfl,by simpa [Sl.nil] using h⟩
structure LH (x:az):Prop where
 v:VW x.dZ
 w:x.aM.av.l.length<=1048576
 n:x.aa.length<=1048576
theorem FK {x:az}(hw:x.wf) (h:x.sz<=1048576):LH x:=by
 have h1:=x.bH;have h2:=ax.uO x.aM;have b:=Bs.gQ x.aa;exact⟨VW.of (by omega) hw.2.2.2.1,by omega,by omega⟩
theorem LI {d:an}(hd:q5 d){t:ay}(ht:t.aa.length<=1048576):∀(l:List aT) (s:Sl Z9),(∀f∈l,f.aa.length<=1048576/\f.aG.l.length<=f.sz/\f.sz<=1048576/\∀x∈f.aG.l,LH x)->s.l.length+(l.map aT.sz).sum<=1000000000->Tl (q7 d t l s) (s.l.length+(l.map aT.sz).sum)
 | [],s,_,_=>⟨s,rfl,by simp⟩
 | a::r,s,hx,h=>by
  obtain⟨h1,h2,k,b⟩:=hx a (.head _);simp only [List.map_cons,List.sum_cons] at h ⊢;rw [q7];simp only [on];rw [eY (by simp only [List.length_cons,List.length_nil]; omega),oB,eY (by simp only [List.length_append,List.length_cons,List.length_nil]; omega),oB];refine Tl.JJ (a:=s.l.length) (Nat.le_refl _) (LG hd a.aG (p:=t.aa++[46]++a.aa) (q:=[40]) (r:=[41]) (by simp only [List.length_append,List.length_cons,List.length_nil]; omega) (by simp) (by simp) (fun x g=>⟨(b x g).v,(b x g).w,(b x g).n⟩) (by omega)) (by omega) fun u hu=>?_
  exact(LI hd ht r u (fun f j=>hx f (.tail _ j)) (by omega)).mono (by omega)
theorem LJ {d:an}(hd:q5 d):∀(l:List ay) (s:Sl Z9),(∀t∈l,t.wf/\t.sz<=1048576)->s.l.length+2*(l.map ay.sz).sum<=1000000000->Tl (nk d l s) (s.l.length+2*(l.map ay.sz).sum)
 | [],s,_,_=>⟨s,rfl,by simp⟩
 | a::r,s,hx,h=>by
  obtain⟨h1,h2⟩:=hx a (.head _);simp only [List.map_cons,List.sum_cons] at h ⊢;have j:=a.bH;have k:Sl.sz aT.sz a.bA=1+(a.bA.l.map aT.sz).sum:=rfl;have hi:=Sl.gQ (f:=az.sz) a.bG (fun x=>x.pos);have hn:=Bs.gQ a.aa;rw [nk];simp only [on];refine Tl.bind (a:=s.l.length+(a.bA.l.map aT.sz).sum) (LI hd (by omega) a.bA.l s (fun f g=>?_) (by omega)) fun u hu=>?_
  ·have m:=Sl.dh (f:=aT.sz) g;have y:=f.bH;have z:=Bs.gQ f.aa;have B:=Sl.gQ (f:=az.sz) f.aG (fun x=>x.pos);exact⟨by omega,by omega,by omega,fun x b=>FK ((h1.2.2.2.2.1.2.2 f g).2.1.2.2 x b) (by have:=Sl.dh (f:=az.sz) b; omega)⟩
  ·refine Tl.JJ (a:=s.l.length+(a.bA.l.map aT.sz).sum) hu (LG hd a.bG (p:=a.aa) (q:=[46]) (r:=[]) (by omega) (by simp) (by simp) (fun x b=>?_) (by omega)) (by omega) fun v hv=>(LJ hd r v (fun t ht=>hx t (.tail _ ht)) (by omega)).mono (by omega);have:=FK (h1.2.2.2.2.2.2.1.2.2 x b) (by have:=Sl.dh (f:=az.sz) b; omega);exact⟨this.v,this.w,this.n⟩
theorem Ua {d:an}(hw:d.wf) (hd:d.sz<=1048576):q5 d:=fun t ht=>by
 have h1:=an.ER ht;have h2:=t.bH;have b:=Sl.gQ (f:=az.sz) t.bG (fun x=>x.pos);refine⟨by omega,fun x hx=>?_⟩;have:=FK ((hw.1.2.2 t ht).2.2.2.2.2.2.1.2.2 x hx) (by have:=Sl.dh (f:=az.sz) hx; omega);exact⟨this.v,this.w⟩
theorem Ub {d:an}(hw:d.wf) (hd:d.sz<=1048576):Tl (yU d) 3000000:=by
 have b:=d.bH;have hi:Sl.sz ay.sz d.aA=1+(d.aA.l.map ay.sz).sum:=rfl;obtain⟨u,e,h⟩:=LJ (Ua hw hd) d.aA.l Sl.nil (fun t ht=>⟨hw.1.2.2 t ht,by have:=an.ER ht; omega⟩) (by show 0+2*(d.aA.l.map ay.sz).sum<=_; omega);unfold yU;rw [e];refine⟨u,rfl, ?_⟩;have:(Sl.nil:Sl Z9).l.length=0:=rfl;omega
theorem jj (b:Bool) (e:Int) (a:Bs):(cw b e a).length<=1:=by unfold cw; cases b<;>simp
theorem LK (d:an) (n a:Bs) (k:Int):(m_ d n a k).length<=1:=by
 unfold m_;cases (!(bY d.aA.l n).2&&!fu n)
 ·rw [cond_false];cases decide (k=(0:Int))
  ·exact jj _ _ _
  ·exact jj _ _ _
 ·rw [cond_true]; exact jj _ _ _
theorem FL (d:an) (a b:Bs):∀(l:List az) (s:List Bs),(jY d a b s l).length<=3*l.length
 | [],_=>Nat.zero_le _
 | x::l,s=>by
  have h1:=FL d a b l (s++[x.aa]);have h2:=LK d x.aM.aa (a++x.aa++b) 1;have f:=jj (!gj x.aa) 6 (a++x.aa++b);have g:=jj (s.contains x.aa) 7 (a++x.aa++b);rw [jY];simp only [List.length_append,List.length_cons];omega
theorem LL (d:an) (b:Bs):∀(l:List aT) (s:List Bs),(qJ d b s l).length<=3*(l.map aT.sz).sum
 | [],_=>Nat.zero_le _
 | x::l,s=>by
  have h1:=LL d b l (s++[x.aa]);have h2:=LK d x.aM.aa (b++[46]++x.aa) 0;have g:=jj (!gj x.aa) 6 (b++[46]++x.aa);have j:=jj (s.contains x.aa) 7 (b++[46]++x.aa);have k:=FL d (b++[46]++x.aa++[40]) [41] x.aG.l [];have m:=x.bH;have p:=Sl.gQ (f:=az.sz) x.aG az.pos;have q:=Bs.gf x.aa;rw [qJ];simp only [List.length_append,List.map_cons,List.sum_cons]
  omega
theorem LM (b:Bs):∀(l:List bC) (s:List Bs),(oF b s l).length<=2*l.length
 | [],_=>Nat.zero_le _
 | x::l,s=>by
  have h1:=LM b l (s++[x.aa]);have f:=jj (yy x.aa||!gj x.aa) 6 (b++[46]++x.aa);have g:=jj (s.contains x.aa) 7 (b++[46]++x.aa);rw [oF];simp only [List.length_append,List.length_cons];omega
theorem Uc (d:an) (t:ay):(sU d t).length<=3*t.sz:=by
 have h1:=t.bH;have h2:Sl.sz aT.sz t.bA=1+(t.bA.l.map aT.sz).sum:=rfl;have b:=Sl.gQ (f:=az.sz) t.bG az.pos;have g:=Sl.gQ (f:=bC.sz) t.bV bC.pos;have f1:=LL d t.aa t.bA.l [];have f2:=LM t.aa t.bV.l [];have f3:=FL d (t.aa++[46]) [] t.bG.l [];unfold sU;cases (bif (decide (t.aj=(1:Int))) then((decide (t.aj=(1:Int)))) else((decide (t.aj=(2:Int)))))
 ·rw [cond_false];cases decide (t.aj=(4:Int))
  ·rw [cond_false];cases decide (t.aj=(5:Int))
   ·exact Nat.zero_le _
   ·rw [cond_true]; omega
  ·rw [cond_true]; omega
 ·rw [cond_true]; omega
theorem Ud (d:an) (s:List Bs) (t:ay):(sV d s t).length<=5:=by
 unfold sV;have h1:=jj (!gj t.aa) 6 t.aa;have h2:=jj (s.contains t.aa||fu t.aa) 7 t.aa;have b:=jj (yz t) 8 t.aa;have f:=jj (vb t) 9 t.aa;have g:=jj (decide (t.aj=(5:Int))&&oE d t) 5 t.aa;simp only [List.length_append];omega
theorem LN (d:an):∀(l:List ay) (s:List Bs),(oG d s l).length<=5*l.length+3*(l.map ay.sz).sum
 | [],_=>Nat.zero_le _
 | t::l,s=>by
  have h1:=LN d l (s++[t.aa]);have h2:=Ud d s t;have b:=Uc d t;rw [oG];simp only [List.length_append,List.length_cons,List.map_cons,List.sum_cons];omega
theorem Ue {d:an}(h:d.sz<=1048576) (b:Bool):(sW d b).length<=9000000:=by
 have h1:=d.bH;have h2:Sl.sz ay.sz d.aA=1+(d.aA.l.map ay.sz).sum:=rfl;have g:=Sl.gQ (f:=ay.sz) d.aA ay.pos;have j:=LN d d.aA.l [];have k:=jj (b&&!(bY d.aA.l ([81,117,101,114,121]:Bs)).2) 30 ([81,117,101,114,121]:Bs);unfold sW;simp only [List.length_append];omega
theorem Uf {t:ax}(hw:t.wf) (h:t.sz<=1048576):bX t.av:=⟨(ax.Ql hw).1,by have:=t.uO; omega⟩
theorem Uh {d:an}(hw:d.wf) (q:d.sz<=1048576):∀t∈d.aA.l,oN t:=fun t ht=>by
 have r:=d.bH;have a2:=Sl.dh (f:=ay.sz) ht;have a3:=t.bH;have g:=(an.AL hw).2.2 t ht;have s:Bs.sz t.aa=t.aa.length+1:=rfl;refine⟨by omega,fun f b=>?_,fun m hm=>?_⟩
 ·have a4:=Sl.dh (f:=aT.sz) b;have a5:=f.bH;have j:=(ay.Ec g).2.2 f b;have k:Bs.sz f.aa=f.aa.length+1:=rfl;refine⟨by omega,fun a p=>?_,Uf (aT.nU j) (by omega)⟩;have u:=Sl.dh (f:=az.sz) p;have v:=a.bH;have w:Bs.sz a.aa=a.aa.length+1:=rfl;omega
 ·have a4:=Sl.dh (f:=bC.sz) hm;have a5:=m.bH;have k:Bs.sz m.aa=m.aa.length+1:=rfl;omega
inductive q8 (fr:List aY) (S:List Bs):ai->Prop
 | mk (s:ai) (h1:s.aj=2->(fA fr s.aa).2=true->s.aa∈S) (h2:s.aj≠2->∀x∈s.aK.l,q8 fr S x):q8 fr S s
theorem q8.mono {fr:List aY}{S T:List Bs}(f:∀x∈S,x∈T){s:ai}(h:q8 fr S s):q8 fr T s:=by
 induction h with
 | mk s h1 h2 g=>exact⟨s,fun a b=>f _ (h1 a b),fun a x hx=>g a x hx⟩
def nq (fr:List aY) (S:List Bs) (l:List ai):Prop:=∀x∈l,q8 fr S x
theorem nq.mono {fr:List aY}{S T:List Bs}(b:∀x∈S,x∈T){l:List ai}(h:nq fr S l):nq fr T l:=fun x hx=>(h x hx).mono b
def nr (fr:List aY) (s b:List Bs):Prop:=(∀x∈s,x∈b)/\∀g∈b,g∉s->nq fr b (fA fr g).1.aK.l
theorem nr.refl {fr:List aY}(s:List Bs):nr fr s s:=⟨fun _ h=>h,fun _ h h2=>(h2 h).elim⟩
theorem nr.trans {fr:List aY}{a b c:List Bs}(h:nr fr a b) (k:nr fr b c):nr fr a c:=by
 refine⟨fun x hx=>k.1 x (h.1 x hx),fun g hg j=>?_⟩;by_cases f:g∈b
 ·exact(h.2 g f j).mono k.1
 ·exact k.2 g hg f
theorem LO {q:aR}:∀(n:Nat) (l:Sl ai) (s f:Sl Bs) (b:Bool),iX n q l s=some (f,b)->nr q.aL.l s.l f.l/\nq q.aL.l f.l l.l
 | 0,_,_,_,_,h=>by cases h
 | n+1,l,s,f,b,h=>by
  have t:=@LO q n;have loop:∀(l:List ai) (s f:Sl Bs) (b p:Bool),mZ q (iX n) l s b=some (f,p)->nr q.aL.l s.l f.l/\nq q.aL.l f.l l:=by
   intro l;induction l with
   | nil=>intro s f b p h; cases h; exact⟨.refl _,fun _ h=>by cases h⟩
   | cons x r B =>
    intro s f b p h;rw [mZ] at h;simp only [on,u4,E8] at h;obtain⟨z,hz,h⟩:=Option.bind_eq_some_iff.1 h;obtain⟨u,c2⟩:=B _ _ _ _ h;have fin:nr q.aL.l s.l z.1.l->q8 q.aL.l z.1.l x->nr q.aL.l s.l f.l/\nq q.aL.l f.l (x::r):=fun w c=>⟨w.trans u,fun y j=>by
     rcases List.mem_cons.1 j with rfl|j
     ·exact c.mono u.1
     ·exact c2 y j⟩
    by_cases h2:x.aj=2
    ·rw [dT h2,cond_true] at hz;cases m:(fA q.aL.l x.aa).2 with
     | false =>
      rw [m] at hz;cases hz;exact fin (.refl _) ⟨x,fun _ e=>(by rw [m] at e; cases e),fun e=>(e h2).elim⟩
     | true =>
      obtain⟨hn,hm⟩:=sO m;rw [m] at hz;simp only [Bool.not_true,Bool.not_false,cond_true,Bool.false_or] at hz;cases hc:s.l.contains x.aa with
      | true =>
       rw [hc] at hz;cases hz;exact fin (.refl _) ⟨x,fun _ _=>by simpa using hc,fun e=>(e h2).elim⟩
      | false =>
       rw [hc,cond_false] at hz;obtain⟨G,h1,hz⟩:=Option.bind_eq_some_iff.1 hz;obtain⟨C,-⟩:=xq h1;subst C;obtain⟨y,j,hz⟩:=Option.bind_eq_some_iff.1 hz;obtain⟨k,c1⟩:=t _ _ _ _ (show iX n q _ _=some (y.1,y.2) from j);cases hz;have E:∀g∈s.l,g∈s.l++[x.aa]:=fun g hg=>by simp [hg]
       have hx:x.aa∈y.1.l:=k.1 _ (by simp);refine fin ⟨fun g hg=>k.1 g (E g hg),fun g hg F=>?_⟩ ⟨x,fun _ _=>hx,fun e=>(e h2).elim⟩;by_cases v:g∈s.l++[x.aa]
       ·rcases List.mem_append.1 v with h|h
        ·exact(F h).elim
        ·rw [List.mem_singleton.1 h]; exact c1
       ·exact k.2 g hg v
    ·rw [dF h2,cond_false] at hz;obtain⟨y,j,hz⟩:=Option.bind_eq_some_iff.1 hz;obtain⟨k,c1⟩:=t _ _ _ _ (show iX n q _ _=some (y.1,y.2) from j);cases hz;exact fin k ⟨x,fun e=>(h2 e).elim,fun _=>c1⟩
  rw [iX] at h;simp only [on] at h;obtain⟨z,hz,h⟩:=Option.bind_eq_some_iff.1 h;cases h;exact loop _ _ _ _ _ hz
def tC (fr:List aY):Prop:=∀g,(fA fr g).2=true->∃S:List Bs,g∉S/\nq fr S (fA fr g).1.aK.l/\∀h∈S,nq fr S (fA fr h).1.aK.l
theorem Ui {q:aR}(h:∀f∈q.aL.l,jX q f=some false):tC q.aL.l:=fun g hg=>by
 obtain⟨hn,hm⟩:=sO hg;have hl:=h _ hm;unfold jX at hl;obtain⟨z,hz,hl⟩:=Option.bind_eq_some_iff.1 hl;simp only [on,E8,Option.some.injEq] at hl;obtain⟨w,c⟩:=LO F0 _ _ _ _ (show iX F0 q _ _=some (z.1,z.2) from hz);rw [hn] at hl;exact⟨z.1.l,by simpa using hl,c,fun h hh=>w.2 h hh (by simp [Sl.nil])⟩
def Ht (fr:List aY):Nat->ai->Prop
 | 0,_=>False
 | n+1,s=>(s.aj=2->(fA fr s.aa).2=true->∀x∈(fA fr s.aa).1.aK.l,Ht fr n x)/\(s.aj≠2->∀x∈s.aK.l,Ht fr n x)
theorem Ht.succ {fr:List aY}:∀{n:Nat}{s:ai},Ht fr n s->Ht fr (n+1) s
 | 0,_,h=>h.elim
 | n+1,s,h=>⟨fun a b x hx=>(h.1 a b x hx).succ,fun a x hx=>(h.2 a x hx).succ⟩
theorem Uj {s x:ai}(h:x∈s.aK.l):x.sz<s.sz:=by
 have h1:=ai.Ry h;omega
theorem pW {x:ai}:∀{l:List ai},x∈l->x.sz<=(l.map ai.sz).sum
 | y::r,h=>by
  simp only [List.map_cons,List.sum_cons];rcases List.mem_cons.1 h with rfl|h
  ·omega
  ·have:=pW h; omega
theorem FM {fr:Sl aY}{T:Nat}(k:tC fr.l) (m:∀f∈fr.l,(f.aK.l.map ai.sz).sum<=T):∀(n:Nat) (P:List (Bs×List Bs)) (s:ai),(∀p∈P,p.1∉p.2/\(∀h∈p.2,nq fr.l p.2 (fA fr.l h).1.aK.l)/\q8 fr.l p.2 s) ->
  fQ fr (P.map (·.1))*(T+1)+s.sz<n->Ht fr.l n s
 | 0,_,_,_,h=>by omega
 | n+1,P,s,j,hn=>by
  refine⟨fun h2 q x hx=>?_,fun h2 x hx=>?_⟩
  ·obtain⟨r,hm⟩:=sO q;obtain⟨S,w,C,E⟩:=k _ q;have t:∀p∈P,s.aa∈p.2:=fun p g=>by
    cases (j p g).2.2 with
    | mk _ u v=>exact u h2 q
   have z:s.aa∉P.map (·.1):=fun h=>by
    obtain⟨p,g,e⟩:=List.mem_map.1 h;exact(j p g).1 (by rw [e]; exact t p g)
   refine FM k m n ((s.aa,S)::P) x (fun p g=>?_) ?_
   ·rcases List.mem_cons.1 g with rfl|g
    ·exact⟨w,E,C x hx⟩
    ·exact⟨(j p g).1,(j p g).2.1,(j p g).2.1 _ (t p g) x hx⟩
   ·have aJ:=E2 (fr:=fr) (a:=P.map (·.1)) (b:=((s.aa,S)::P).map (·.1)) (fun y B=>by simp only [List.map_cons]; exact .tail _ B) hm (by rw [r]; exact z) (by rw [r]; simp);have h1:=pW hx;have F:=m _ hm;exact J_ (y:=s.sz) aJ (by omega) (by omega)
  ·refine FM k m n P x (fun p g=>⟨(j p g).1,(j p g).2.1, ?_⟩) ?_
   ·cases (j p g).2.2 with
    | mk _ u v=>exact v h2 x hx
   ·have:=Uj hx; omega
def H0:Nat:=1099513724930
theorem Uk {q:aR}(hq:u7 q) (b:tC q.aL.l){s:ai}(f:s.sz<=1048576):Ht q.aL.l H0 s:=by
 refine FM b hq.2 H0 [] s (fun _ h=>by cases h) ?_;have h1:=E9 q.aL [];have h2:=hq.1;have:fQ q.aL []*(1048576+1)<=1048576*(1048576+1):=Nat.mul_le_mul_right _ (by omega);show fQ q.aL []*(1048576+1)+s.sz<H0;unfold H0; omega
noncomputable def wF (fr:List aY) (seen:List Bs):Nat:=((fr.filter fun f=>!seen.contains f.aa).map fun f=>(f.aK.l.map ai.sz).sum).sum
theorem FN {fr:List aY}{a b:List Bs}(h:∀s∈a,s∈b):wF fr b<=wF fr a:=by
 unfold wF;induction fr with
 | nil=>simp
 | cons f r g =>
  rw [List.filter_cons,List.filter_cons];cases k:b.contains f.aa with
  | true =>
   simp only [Bool.not_true,Bool.false_eq_true,if_false]
   split
   ·simp only [List.map_cons,List.sum_cons]; omega
   ·exact g
  | false =>
   have j:a.contains f.aa=false:=by
    cases e:a.contains f.aa with
    | false=>rfl
    | true=>have:=h f.aa (by simpa using e); simp_all
   simp only [j,Bool.not_false,if_true,List.map_cons,List.sum_cons]; omega
theorem BT (l:List Bs) (s n:Bs):n∈cB l s↔n∈l\/n=s:=by
 unfold cB
 split
 ·rename_i h
  have:s∈l:=by simpa using h
  exact⟨.inl,fun h=>h.elim id fun e=>e▸this⟩
 ·simp
theorem LP {fr:List aY}{seen:List Bs}{f:aY}(b:f∈fr) (hn:f.aa∉seen):wF fr (cB seen f.aa)+(f.aK.l.map ai.sz).sum<=wF fr seen:=by
 induction fr with
 | nil=>cases b
 | cons g r j =>
  have k:∀s∈seen,s∈cB seen f.aa:=fun s m=>(BT _ _ _).2 (.inl m);have hle:=FN (fr:=r) k;unfold wF at j hle ⊢;rw [List.filter_cons,List.filter_cons];rcases List.mem_cons.1 b with rfl|b
  ·have h1:(cB seen f.aa).contains f.aa=true:=by simpa using (BT _ _ _).2 (.inr rfl)
   have h2:seen.contains f.aa=false:=by simpa using hn
   simp only [h1,h2,Bool.not_true,Bool.false_eq_true,if_false,Bool.not_false,if_true,List.map_cons,List.sum_cons]; omega
  ·have:=j b;cases h1:(cB seen f.aa).contains g.aa with
   | true =>
    simp only [Bool.not_true,Bool.false_eq_true,if_false]
    split
    ·simp only [List.map_cons,List.sum_cons]; omega
    ·exact this
   | false =>
    have h2:seen.contains g.aa=false:=by
     cases e:seen.contains g.aa with
     | false=>rfl
     | true=>have:=k g.aa (by simpa using e); simp_all
    simp only [h2,Bool.not_false,if_true,List.map_cons,List.sum_cons]; omega
theorem Ul (c:Z5) (s:Bs):yV c s=(fA c.dK.aL.l s).1.aK:=by
 unfold yV;have aux:∀l:List aY,q9 s l=match l.find? (fun t=>t.aa==s) with|some t=>Sum.inr t.aK|none=>Sum.inl ():=by
  intro l;induction l with
  | nil=>rfl
  | cons x r b =>
   rw [q9,List.find?_cons];simp only [on];cases x.aa==s
   ·rw [cond_false,b]
   ·rfl
 simp only [on,aux];unfold fA;cases c.dK.aL.l.find? (fun t=>t.aa==s)<;>rfl
def Pp (fr:List aY) (k:Nat) (p:Z6):Prop:=p.eD.aj≠2/\Ht fr k p.eD/\p.eD.sz<=1048576
def Cl (c:Z5) (k:Nat) (l:List ai) (g:List Bs) (out:Sl Z6) (o:Option (Sl Z6×List Bs)):Prop :=
 ∃b f,o=some (b,f)/\(∀s∈g,s∈f)/\4*b.l.length+wF c.dK.aL.l f<=4*out.l.length+wF c.dK.aL.l g+(l.map ai.sz).sum/\∀p∈b.l,p∈out.l\/Pp c.dK.aL.l k p
theorem LQ {c:Z5}(w:∀f∈c.dK.aL.l,(f.aK.l.map ai.sz).sum<=1048576) (k:Nat):∀(n:Nat) (l:Sl ai) (m:Bs) (b:List Bs) (out:Sl Z6),wF c.dK.aL.l b+(l.l.map ai.sz).sum<n->(l.l.map ai.sz).sum<=1048576->(∀s∈l.l,Ht c.dK.aL.l k s) ->
  4*out.l.length+wF c.dK.aL.l b+(l.l.map ai.sz).sum<=1073741824->Cl c k l.l b out (j8 n c l m b out)
 | 0,_,_,_,_,h,_,_,_=>by omega
 | n+1,l,m,b,out,hn,hl,hh,t=>by
  have y:=LQ w k n;have loop:∀(l:List ai) (b:List Bs) (out:Sl Z6),wF c.dK.aL.l b+(l.map ai.sz).sum<=n->(l.map ai.sz).sum<=1048576->(∀s∈l,Ht c.dK.aL.l k s)->4*out.l.length+wF c.dK.aL.l b+(l.map ai.sz).sum<=1073741824 ->
    Cl c k l b out (nt c m (j8 n) l out b):=by
   intro l;induction l with
   | nil=>intro b out _ _ _ _; exact⟨out,b,rfl,fun _ h=>h,by simp,fun p h=>.inl h⟩
   | cons s r E =>
    intro b out hn hl hh t;simp only [List.map_cons,List.sum_cons] at hn hl t ⊢;have K:=u0 s;have q:=hh s (.head _);have hk:∀x,Ht c.dK.aL.l (k-1) x->Ht c.dK.aL.l k x:=fun x h=>by
     cases k with
     | zero=>exact h.elim
     | succ k=>exact h.succ
    rw [nt];simp only [on];have go:∀o,Cl c k [s] b out o->Cl c k (s::r) b out (Option.bind o fun z=>nt c m (j8 n) r z.1 z.2):=fun o F=>by
     obtain⟨o1,v1,g,j,a2,a3⟩:=F;simp only [List.map_cons,List.sum_cons,List.map_nil,List.sum_nil] at a2;have hw:=FN (fr:=c.dK.aL.l) j;obtain⟨o2,v2,G,H,L,I⟩:=E v1 o1 (by omega) (by omega) (fun x hx=>hh x (.tail _ hx)) (by omega);refine⟨o2,v2,by rw [g,oB]; exact G,fun x hx=>H x (j x hx),by simp only [List.map_cons,List.sum_cons]; omega,fun p u=>(I p u).elim (fun h=>a3 p h) .inr⟩
    refine go _ ?_;have one:([s].map ai.sz).sum=s.sz:=by simp
    cases k with
    | zero=>exact q.elim
    | succ k =>
    by_cases B:s.aj=3
    ·rw [dT B,cond_true];obtain⟨o1,v1,g,j,a2,a3⟩:=y s.aK (bif !(s.b9==([]:Bs)) then s.b9 else m) b out (by omega) (by omega) (fun x hx=>hk x (q.2 (by omega) x hx)) (by omega);exact⟨o1,v1,by rw [g]; rfl,j,by rw [one]; omega,a3⟩
    ·rw [dF B,cond_false];by_cases h2:s.aj=2
     ·rw [dT h2,cond_true,u4];cases C:(fA c.dK.aL.l s.aa).2 with
      | false=>exact⟨out,b,rfl,fun _ h=>h,by omega,fun p h=>.inl h⟩
      | true =>
       obtain⟨v,hm⟩:=sO C;cases hc:b.contains s.aa with
       | true=>exact⟨out,b,rfl,fun _ h=>h,by omega,fun p h=>.inl h⟩
       | false =>
        have hw:=LP (fr:=c.dK.aL.l) (seen:=b) hm (by rw [v]; simpa using hc);rw [v] at hw;have J:=w _ hm;simp only [Bool.not_true,Bool.or_false,cond_false,Bool.false_or];rw [Ul,v];obtain⟨o1,v1,g,j,a2,a3⟩:=y (fA c.dK.aL.l s.aa).1.aK (fA c.dK.aL.l s.aa).1.b9 (cB b s.aa) out (by omega) J (fun x hx=>hk x (q.1 h2 C x hx)) (by omega)
        exact⟨o1,v1,by rw [g]; rfl,fun x hx=>j x ((BT _ _ _).2 (.inl hx)),by rw [one]; omega,a3⟩
     ·rw [dF h2,cond_false,fU (by decide) (by simp only [List.length_singleton]; omega),oB];refine⟨_,b,rfl,fun _ h=>h,by simp only [List.length_append,List.length_singleton]; omega,fun p u=>?_⟩;rcases List.mem_append.1 u with h|h
      ·exact .inl h
      ·rw [List.mem_singleton.1 h];exact .inr ⟨h2,q,by show s.sz<=_; omega⟩
  obtain⟨o1,v1,g,a⟩:=loop l.l b out (by omega) hl hh t;exact⟨o1,v1,by rw [j8,g]; rfl,a⟩
structure Ov (c:Z5):Prop where
 d:fP c.lB
 q:c.dK.sz<=1048576
theorem Ov.Um {c:Z5}(h:Ov c):wF c.dK.aL.l []<=1048576/\∀f∈c.dK.aL.l,(f.aK.l.map ai.sz).sum<=1048576:=by
 have hq:=h.q;have h1:=c.dK.bH;have h2:Sl.sz aY.sz c.dK.aL=1+(c.dK.aL.l.map aY.sz).sum:=rfl;refine⟨?_,(u_ hq).2⟩;have:∀l:List aY,wF l []<=(l.map aY.sz).sum:=fun l=>by
  unfold wF;induction l with
  | nil=>simp
  | cons f r b =>
   have:=u9 f;rw [List.filter_cons];simp only [List.contains_nil,Bool.not_false,if_true,List.map_cons,List.sum_cons] at b ⊢;omega
 have:=this c.dK.aL.l;omega
theorem FO {c:Z5}(h:Ov c){k:Nat}{l:Sl ai}(b:Bs) (hl:(l.l.map ai.sz).sum<=1048576) (hh:∀s∈l.l,Ht c.dK.aL.l k s):∃o,BV c l b=some o/\o.l.length<=524288/\∀p∈o.l,Pp c.dK.aL.l k p:=by
 obtain⟨h1,h2⟩:=h.Um;obtain⟨o,v,e,-,a2,a3⟩:=LQ h2 k F0 l b [] (Sl.nil:Sl Z6) (by rw [ep]; omega) hl hh (by simp only [Sl.nil,List.length_nil]; omega);refine⟨o, ?_, ?_,fun p f=>(a3 p f).resolve_left (by simp [Sl.nil])⟩
 ·unfold BV LR;rw [e]; rfl
 ·simp only [Sl.nil,List.length_nil] at a2;omega
theorem LS {ρ β:Type}{C:Bool}{g:(ρ->Option β)->Option β}{d:ρ}{k:ρ->Option β}{b:β}(h1:C=true->g k=some b) (h2:C=false->k d=some b):nN C g d k=some b:=by
 cases C with
 | false=>exact h2 rfl
 | true=>exact h1 rfl
theorem LU {f:aO->Bool}:∀(l:List aO) (n:Nat),(∃i:Nat,i<l.length/\q_ f l n=Sum.inr ((n+i:Nat):Int))\/q_ f l n=Sum.inl ()
 | [],n=>.inr rfl
 | x::r,n=>by
  rw [q_];simp only [on];cases f x with
  | true=>exact .inl ⟨0,by simp,rfl⟩
  | false =>
   rw [cond_false];rcases LU r (n+1) with ⟨i,h,e⟩|e
   ·exact .inl ⟨i+1,by simpa using h,by rw [e]; congr 2; omega⟩
   ·exact .inr e
theorem Am (s:Sl aO) (f:aO->Bool):(∃i:Nat,i<s.l.length/\vC s f=(i:Int))\/vC s f = -1:=by
 unfold vC;rcases LU (f:=f) s.l 0 with ⟨i,h,e⟩|e
 ·exact .inl ⟨i,h,by simp only [on,e]; rw [Nat.zero_add]⟩
 ·exact .inr (by simp only [on,e])
theorem LV {a b:Sl aO}(g:∀x∈a.l,x.dr.sz<=1048576):∃v,vD a b=some v:=by
 have loop:∀l:List aO,(∀x∈l,x.dr.sz<=1048576)->∃o,rf b l=some o:=by
  intro l;induction l with
  | nil=>intro _; exact⟨_,rfl⟩
  | cons x r j =>
   intro h;obtain⟨o,f⟩:=j fun y k=>h y (.tail _ k);rw [rf];simp only [on];rcases Am b (fun m=>yW m x) with ⟨i,hi,e⟩|e
   ·rw [e,show decide ((i:Int)<0)=false from dF (by omega)];have p:dc b.l (i:Int)=some b.l[i]:=by unfold dc; simp [hi]
    simp only [a_,Bool.not_false,if_true,p,oB,(T0 (h x (.head _))).1,Bool.false_or];cases yS x.dr b.l[i].dr
    ·exact⟨_,rfl⟩
    ·exact⟨o,f⟩
   ·rw [e];simp only [a_,show decide ((-1:Int)<0)=true from rfl,Bool.not_true,Bool.false_eq_true,if_false,Bool.true_or,cond_true];exact⟨_,rfl⟩
 obtain⟨o,f⟩:=loop a.l g;unfold vD;rw [f];cases o<;>exact⟨_,rfl⟩
theorem Un {a b:Sl aO}(f:∀x∈a.l,x.dr.sz<=1048576) (g:∀x∈b.l,x.dr.sz<=1048576):∃v,yX a b=some v:=by
 show ∃v,BW a b=some v;unfold BW;obtain⟨v,hv⟩:=LV (b:=b) f;obtain⟨w,hw⟩:=LV (b:=a) g;rw [hv,hw];cases decide (((a.l.length:Nat):Int)=((b.l.length:Nat):Int))<;>cases v<;>exact⟨_,rfl⟩
theorem Uo (c:Z5) (t u:ax):∃v,BX c t u=some v:=by
 show ∃v,BY c t u=some v;unfold BY;rw [Fh,oB];obtain⟨v,hv⟩:=SB t u;rw [hv];cases decide (t.av.l=u.av.l)<;>exact⟨_,rfl⟩
theorem LW {s:ai}(h:s.sz<=1048576):∀x∈s.aG.l,x.dr.sz<=1048576:=fun x hx=>by
 have h1:=s.bH;have h2:=Sl.dh (f:=aO.sz) hx;have b:=x.qf;omega
theorem LX {s:ai}(h:s.sz<=1048576):(s.aK.l.map ai.sz).sum<=1048576:=by have:=u0 s; omega
def yY (f:(Bool->Option Unit)->Option Unit):Prop:=∀kk,kk true=some ()->kk false=some ()->f kk=some ()
theorem LY {c:Z5}{n:Nat}{b:Z4}(h:yY (tD n c b)):yY (j9 (n+1) c b):=fun kk h1 h2=>by
 rw [j9,h _ rfl rfl,oB,h1,oB,h2]
theorem LZ {c:Z5}(h:Ov c):∀(k n:Nat) (b:Z4),2*k<=n->Pp c.dK.aL.l k b.Fx->Pp c.dK.aL.l k b.Fy->yY (tD n c b)
 | 0,_,_,_,hx,_=>hx.2.1.elim
 | k+1,n,b,hn,hx,u=>fun kk ht F=>by
  obtain⟨m,rfl⟩:∃m,n=m+2:=⟨n-2,by omega⟩;have H:=LZ h k m;rw [tD,L0,Bf h.d,oB,L0,Bf h.d,oB];generalize eF c.lB b.Fx.er b.Fx.eD.aa=v;generalize eF c.lB b.Fy.er b.Fy.eD.aa=w;cases (!v.2)||(!w.2) with
  | true=>exact F
  | false =>
   rw [cond_false];obtain⟨I,J⟩:=Uo c v.1 w.1;rw [J,oB];cases I with
   | false=>exact ht
   | true =>
    rw [Bool.not_true,cond_false];obtain⟨j,Z,L⟩:∃j,True/\∀(K:Bool->Option Unit),K j=some ()->a_ ((!b.jN&&(!(b.Fx.er==b.Fy.er)))) (vE c b.Fx.er) false K=some () :=
     ⟨bif (!b.jN&&(!(b.Fx.er==b.Fy.er))) then BZ c b.Fx.er else false,trivial,fun K q=>by cases e:(!b.jN&&(!(b.Fx.er==b.Fy.er)))<;>rw [e] at q<;>exact q⟩
    refine L _ ?_;obtain⟨t,ab,M⟩:∃t,True/\∀(K:Bool->Option Unit),K t=some ()->a_ ((!b.jN&&((!(b.Fx.er==b.Fy.er))&&j))) (vE c b.Fy.er) false K=some () :=
     ⟨bif (!b.jN&&((!(b.Fx.er==b.Fy.er))&&j)) then BZ c b.Fy.er else false,trivial,fun K q=>by cases e:(!b.jN&&((!(b.Fx.er==b.Fy.er))&&j))<;>rw [e] at q<;>exact q⟩
    refine M _ ?_;obtain⟨ad,N⟩:=Un (LW hx.2.2) (LW u.2.2);have O:∀(C:Bool) (K:Bool->Option Unit),(∀x,K x=some ())->a_ C (yX b.Fx.eD.aG b.Fy.eD.aG) false K=some ():=fun C K q=>by
     rw [N];cases C<;>exact q _
    refine O _ _ fun P=>?_;generalize ((!(b.jN||(((!(b.Fx.er==b.Fy.er))&&j)&&t)))&&((!(b.Fx.eD.aa==b.Fy.eD.aa))||(!P)))=g;cases g with
    | true=>exact ht
    | false =>
     rw [cond_false];have Q:b.Fx.eD.aj≠2:=hx.1;have R:b.Fy.eD.aj≠2:=u.1;obtain⟨r,S,-,U⟩:=FO h (k:=k) v.1.aa (LX hx.2.2) (hx.2.1.2 Q);obtain⟨p,W,-,X⟩:=FO h (k:=k) w.1.aa (LX u.2.2) (u.2.1.2 R);rw [show ri c b.Fx.eD.aK v.1.aa=some r from S,oB,show ri c b.Fy.eD.aK w.1.aa=some p from W,oB]
     have inner:∀(y:Z6) (s:Nat) (z:Nat->Option Unit),Pp c.dK.aL.l k y->z (s+1)=some ()->∀(f i:Nat),p.l.length<i+f->i<=p.l.length->vF c b kk j t p s y z (j9 (m+1)) f i=some ():=by
      intro y s z Y hk f;induction f with
      | zero=>intro i hi B; omega
      | succ f E =>
       intro i hi B;rw [vF];by_cases aJ:i<p.l.length
       ·rw [show decide (((i:Nat):Int)<((p.l.length:Nat):Int))=true from dT (by omega),cond_true,List.getElem?_eq_getElem aJ,oB];show nN _ _ _ _=_;have G:=E (i+1) (by omega) (by omega);refine LS (fun hC=>?_) fun hC=>?_
        ·refine LY (H _ (by omega) Y (X _ (List.getElem_mem aJ))) _ ?_ ?_
         ·rw [hC]; exact ht
         ·rw [hC]; exact G
        ·rw [hC]; exact G
       ·rw [show decide (((i:Nat):Int)<((p.l.length:Nat):Int))=false from dF (by omega),cond_false];exact hk
     have outer:∀(f i:Nat),r.l.length<i+f->i<=r.l.length->rj c b kk j t r p (j9 (m+1)) f i=some ():=by
      intro f;induction f with
      | zero=>intro i hi B; omega
      | succ f E =>
       intro i hi B;rw [rj];by_cases aJ:i<r.l.length
       ·rw [show decide (((i:Nat):Int)<((r.l.length:Nat):Int))=true from dT (by omega),cond_true,List.getElem?_eq_getElem aJ,oB];exact inner _ i _ (U _ (List.getElem_mem aJ)) (E (i+1) (by omega) (by omega)) _ 0 (by omega) (by omega)
       ·rw [show decide (((i:Nat):Int)<((r.l.length:Nat):Int))=false from dF (by omega),cond_false];exact F
     exact outer _ 0 (by omega) (by omega)
theorem L1 {α:Type}{s:Sl α}{i:Nat}(h:i<=s.l.length):∃r,js s (some ((i:Nat):Int)) none=some r/\r.l=s.l.drop i:=by
 unfold js;simp [h]
theorem Up {c:Z5}(h:Ov c){x y:Z6}(hx:Pp c.dK.aL.l H0 x) (f:Pp c.dK.aL.l H0 y) (b:Bool):yY (B0 c ⟨x,y,b⟩) :=
 LY (n:=4611686018427387903) (LZ h H0 _ _ (by unfold H0; omega) hx f)
theorem Uq {c:Z5}(h:Ov c){l:Sl Z6}{g:Z6->Option Bool}(hg:∀p,∃b,g p=some b) (hl:∀p∈l.l,Pp c.dK.aL.l H0 p):yY (B3 c l g):=fun kk ht t=>by
 have inner:∀(s:Nat) (x:Z6) (y:Sl Z6) (j:Nat->Option Unit),Pp c.dK.aL.l H0 x->(∀p∈y.l,Pp c.dK.aL.l H0 p)->j (s+1)=some ()->∀(f i:Nat),y.l.length<i+f->i<=y.l.length->tE c g kk s x y j f i=some ():=by
  intro s x y j hx k hk f;induction f with
  | zero=>intro i hi m; omega
  | succ f q =>
   intro i hi m;rw [tE];by_cases aJ:i<y.l.length
   ·rw [show decide (((i:Nat):Int)<((y.l.length:Nat):Int))=true from dT (by omega),cond_true,List.getElem?_eq_getElem aJ,oB];obtain⟨b,u⟩:=hg x;obtain⟨w,z⟩:=hg y.l[i];rw [u,oB,z];have r:=q (i+1) (by omega) (by omega);have key:∀v:Bool,nN (b&&v) (B0 c ⟨x,y.l[i],false⟩) false (fun B=>bif ((b&&v)&&B) then kk true else tE c g kk s x y j f (i+1))=some ():=fun v=>by
     refine LS (fun hC=>?_) fun hC=>?_
     ·refine Up h hx (k _ (List.getElem_mem aJ)) false _ ?_ ?_
      ·rw [hC]; exact ht
      ·rw [hC]; exact r
     ·rw [hC]; exact r
    cases b with
    | true=>exact key w
    | false=>exact key false
   ·rw [show decide (((i:Nat):Int)<((y.l.length:Nat):Int))=false from dF (by omega),cond_false];exact hk
 have outer:∀(f i:Nat),l.l.length<i+f->i<=l.l.length->rm c l g kk f i=some ():=by
  intro f;induction f with
  | zero=>intro i hi m; omega
  | succ f q =>
   intro i hi m;rw [rm];by_cases aJ:i<l.l.length
   ·rw [show decide (((i:Nat):Int)<((l.l.length:Nat):Int))=true from dT (by omega),cond_true,List.getElem?_eq_getElem aJ,oB];obtain⟨y,e,k⟩:=L1 (s:=l) (i:=i+1) (by omega);rw [e,oB];exact inner i _ y _ (hl _ (List.getElem_mem aJ)) (fun p C=>hl p (List.mem_of_mem_drop (k▸C))) (q (i+1) (by omega) (by omega)) _ 0 (by omega) (by omega)
   ·rw [show decide (((i:Nat):Int)<((l.l.length:Nat):Int))=false from dF (by omega),cond_false];exact t
 exact outer _ 0 (by omega) (by omega)
def B4 (B:Nat) (f:(Sl Z9->Option Unit)->Option Unit):Prop:=∀kk,(∀r:Sl Z9,r.l.length<=B->kk r=some ())->f kk=some ()
theorem L2 (s:ai):(rp s).length<=s.cq.length+s.aa.length:=by
 unfold rp;cases !(s.cq==([]:Bs))<;>simp
theorem Ur {c:Z5}(h:Ov c) (p:Z6):∃v,B5 c p=some v:=by
 show ∃v,B6 c p=some v;unfold B6;rw [Bf h.d,oB];cases (eF c.lB p.er p.eD.aa).2<;>exact⟨_,rfl⟩
def FP (c:Z5) (n:Nat):Prop:=∀(l:Sl ai) (b at_:Bs),2*(l.l.map ai.sz).sum+1<n->(l.l.map ai.sz).sum<=1048576->at_.length+2*(l.l.map ai.sz).sum<=100000000->B4 (524288*(1+(l.l.map ai.sz).sum)) (j_ n c l b at_)
def B7 (c:Z5) (n:Nat):Prop:=∀(l:Sl ai) (b at_:Bs),2*(l.l.map ai.sz).sum<n->(l.l.map ai.sz).sum<=1048576->at_.length+2*(l.l.map ai.sz).sum<=100000000->B4 (524288*(l.l.map ai.sz).sum) (gy n c l b at_)
theorem Us {c:Z5}(h:Ov c) (C:tC c.dK.aL.l){n:Nat}(hi:B7 c n):FP c (n+1):=fun l g at_ hn hl E kk hk=>by
 rw [j_];obtain⟨b,F,R,z⟩:=FO h (k:=H0) g hl fun s u=>Uk (u_ h.q) C (by have:=pW u; omega);rw [show ri c l g=some b from F,oB];have fin:∀s:Sl Z9,s.l.length<=524288->gy n c l g at_ (fun G=>(bq 24 s G).bind fun H=>kk H)=some ():=fun s u=>by
  refine hi l g at_ (by omega) hl E _ fun r hr=>?_;rw [jL (by decide) (by omega),oB];exact hk _ (by simp only [List.length_append]; omega)
 have loop:∀(f i:Nat) (s:Sl Z9),b.l.length<i+f->i<=b.l.length->s.l.length<=i->mb c l g at_ kk b (gy n) f s i=some ():=by
  intro f;induction f with
  | zero=>intro i s hi I; omega
  | succ f J =>
   intro i s hi I u;rw [mb];by_cases aJ:i<b.l.length
   ·rw [show decide (((i:Nat):Int)<((b.l.length:Nat):Int))=true from dT (by omega),cond_true,List.getElem?_eq_getElem aJ,oB];have B:=z _ (List.getElem_mem aJ);generalize b.l[i]=j at B;rw [show vG b (fun m=>yZ m j)=some (B8 b fun m=>B9 m j) from Ut _ _,oB];generalize B8 b (fun m=>B9 m j)=K;obtain⟨y,e,L⟩:=L1 (s:=b) (i:=i) (by omega)
    have w:∀t:Sl Z9,t.l.length<=i+1->tF i (mb c l g at_ kk b (gy n) f) t=some ():=fun t h'=>J (i+1) t (by omega) (by omega) h';cases hC:decide (K=((i:Nat):Int)) with
    | false=>exact w s (by omega)
    | true =>
     simp only [a_,if_true,e,oB];have key:∀v:Bool,(bif (true&&v) then((cC at_ ([47]:Bs)).bind fun M=>(pe j.eD).bind fun N=>(cC M N).bind fun O=>(bq 24 s (⟨false,[(Z9.mk 28 O)]⟩:Sl Z9)).bind fun P=>tF i ((mb c l g at_ kk b (gy n) f)) P) else(tF i ((mb c l g at_ kk b (gy n) f)) s))=some ():=fun v=>by
      cases v with
      | false=>exact w s (by omega)
      | true =>
       have S:=L2 j.eD;have U:=u0 j.eD;have hz:=B.2.2;rw [Bool.and_true,cond_true,eY (by simp only [List.length_singleton]; omega),oB,show pe j.eD=some (rp j.eD) from rfl,oB,eY (by simp only [List.length_append,List.length_singleton]; omega),oB,
        jL (by decide) (by simp only [List.length_singleton]; omega),oB]
       exact w _ (by simp only [List.length_append,List.length_singleton]; omega)
     exact Uq h (fun p=>⟨_,rfl⟩) (fun p Q=>z p (List.mem_of_mem_drop (L▸Q))) _ (key true) (key false)
   ·rw [show decide (((i:Nat):Int)<((b.l.length:Nat):Int))=false from dF (by omega),cond_false];exact fin s (by omega)
 exact loop _ 0 _ (by omega) (by omega) (Nat.le_refl _)
theorem Uu {c:Z5}(h:Ov c){n:Nat}(t:FP c n) (u:B7 c n):B7 c (n+1):=fun l g at_ hn hl z kk hk=>by
 rw [gy];have loop:∀(f i:Nat) (s:Sl Z9),l.l.length<i+f->i<=l.l.length->s.l.length+524288*((l.l.drop i).map ai.sz).sum<=524288*(l.l.map ai.sz).sum->kg c l g at_ kk (j_ n) (gy n) f s i=some ():=by
  intro f;induction f with
  | zero=>intro i s hi v; omega
  | succ f y =>
   intro i s hi v k;rw [kg];by_cases aJ:i<l.l.length
   ·rw [show decide (((i:Nat):Int)<((l.l.length:Nat):Int))=true from dT (by omega),cond_true,List.getElem?_eq_getElem aJ,oB];rw [List.drop_eq_getElem_cons aJ] at k;have hm:=pW (List.getElem_mem aJ);generalize l.l[i]=b at k hm;simp only [List.map_cons,List.sum_cons] at k;have B:=u0 b;have m:∀j:Sl Z9,j.l.length<=s.l.length+524288*b.sz->vH i (kg c l g at_ kk (j_ n) (gy n) f) j=some ():=fun j h'=>y (i+1) j (by omega) (by omega) (by omega)
    have p:∀to_:Bs,vI c at_ s i b (kg c l g at_ kk (j_ n) (gy n) f) (gy n) to_=some ():=fun to_=>by
     unfold vI;refine u b.aK to_ at_ (by omega) (by omega) (by omega) _ fun r hr=>?_;rw [jL (by decide) (by omega),oB];exact m _ (by simp only [List.length_append]; omega)
    by_cases q:b.aj=3
    ·rw [dT q,cond_true];cases !(b.b9==([]:Bs)) with
     | true=>exact p _
     | false=>exact p _
    ·rw [dF q,cond_false];by_cases h2:b.aj=2
     ·rw [dT h2,cond_true];exact m s (by omega)
     ·rw [dF h2,cond_false];obtain⟨w,hw⟩:=Ur h ⟨g,b⟩;have C:=L2 b;rw [hw,oB,eY (by simp only [List.length_singleton]; omega),oB,show pe b=some (rp b) from rfl,oB,eY (by simp only [List.length_append,List.length_singleton]; omega),oB];refine t b.aK w _ (by omega) (by omega) (by simp only [List.length_append,List.length_singleton]; omega) _ fun r hr=>?_
      rw [jL (by decide) (by omega),oB];exact m _ (by simp only [List.length_append]; omega)
   ·rw [show decide (((i:Nat):Int)<((l.l.length:Nat):Int))=false from dF (by omega),cond_false];exact hk s (by omega)
 exact loop _ 0 _ (by omega) (by omega) (by simp [Sl.nil])
theorem B_ {c:Z5}(h:Ov c) (b:tC c.dK.aL.l):∀n,FP c n/\B7 c n
 | 0=>⟨fun _ _ _ h=>by omega,fun _ _ _ h=>by omega⟩
 | n+1=>⟨Us h b (B_ h b n).2,Uu h (B_ h b n).1 (B_ h b n).2⟩
theorem Uv {d:an}{q:aR}(hd:fP d) (hq:q.sz<=1048576) (p:tC q.aL.l):B4 549755813888 (Ca d q):=fun kk hk=>by
 have h:Ov ⟨d,q,()⟩:=⟨hd,hq⟩;have m:∀(l:Sl ai) (g at_:Bs) (z:Nat),(l.l.map ai.sz).sum+at_.length+1<=z->z<=1048576->B4 (524288*z) (Cb ⟨d,q,()⟩ l g at_):=fun l g at_ z h1 h2 kk hk =>
  (B_ h p F0).1 l g at_ (by rw [ep]; omega) (by omega) (by omega) kk fun r hr=>hk r (by omega)
 have b:=q.bH;have v:Sl.sz bJ.sz q.bw=1+(q.bw.l.map bJ.sz).sum:=rfl;have w:Sl.sz aY.sz q.aL=1+(q.aL.l.map aY.sz).sum:=rfl;have t:∀(f i:Nat) (s:Sl Z9),q.aL.l.length<i+f->i<=q.aL.l.length->s.l.length+524288*((q.aL.l.drop i).map aY.sz).sum<=549755813888->vJ d q kk f s i=some ():=by
  intro f;induction f with
  | zero=>intro i s hi j; omega
  | succ f k =>
   intro i s hi j b;rw [vJ];by_cases aJ:i<q.aL.l.length
   ·rw [show decide (((i:Nat):Int)<((q.aL.l.length:Nat):Int))=true from dT (by omega),cond_true,List.getElem?_eq_getElem aJ,oB];rw [List.drop_eq_getElem_cons aJ] at b;have hm:=Sl.dh (f:=aY.sz) (List.getElem_mem aJ);generalize q.aL.l[i]=x at b hm;simp only [List.map_cons,List.sum_cons] at b;have hz:=u9 x;have u:=x.bH;refine m x.aK x.b9 x.aa x.sz (by have:=Bs.gf x.b9; have:Bs.sz x.aa=x.aa.length+1:=rfl; have:Sl.sz ai.sz x.aK=1+(x.aK.l.map ai.sz).sum:=rfl; omega) (by omega) _ fun r hr=>?_
    rw [jL (by decide) (by omega),oB];exact k (i+1) _ (by omega) (by omega) (by simp only [List.length_append]; omega)
   ·rw [show decide (((i:Nat):Int)<((q.aL.l.length:Nat):Int))=false from dF (by omega),cond_false];exact hk s (by omega)
 have ops:∀(f i:Nat) (s:Sl Z9),q.bw.l.length<i+f->i<=q.bw.l.length->s.l.length+524288*((q.bw.l.drop i).map bJ.sz).sum+524288*(q.aL.l.map aY.sz).sum<=549755813888->vK d q kk f s i=some ():=by
  intro f;induction f with
  | zero=>intro i s hi j; omega
  | succ f k =>
   intro i s hi j b;rw [vK];by_cases aJ:i<q.bw.l.length
   ·rw [show decide (((i:Nat):Int)<((q.bw.l.length:Nat):Int))=true from dT (by omega),cond_true,List.getElem?_eq_getElem aJ,oB];rw [List.drop_eq_getElem_cons aJ] at b;have hm:=Sl.dh (f:=bJ.sz) (List.getElem_mem aJ);generalize q.bw.l[i]=x at b hm;simp only [List.map_cons,List.sum_cons] at b;have u:=x.bH;rw [show Cc x.aj=some (gE x.aj) from rfl,oB]
    refine m x.aK _ x.aa x.sz (by have:Bs.sz x.aa=x.aa.length+1:=rfl; have:Sl.sz ai.sz x.aK=1+(x.aK.l.map ai.sz).sum:=rfl; omega) (by omega) _ fun r hr=>?_;rw [jL (by decide) (by omega),oB];exact k (i+1) _ (by omega) (by omega) (by simp only [List.length_append]; omega)
   ·rw [show decide (((i:Nat):Int)<((q.bw.l.length:Nat):Int))=false from dF (by omega),cond_false];exact t _ 0 s (by omega) (by omega) (by simp only [List.drop_zero]; omega)
 exact ops _ 0 _ (by omega) (by omega) (by simp only [Sl.nil,List.length_nil,List.drop_zero]; omega)
def Gt {σ:Type}(I:σ->Prop) (m:σ->Nat) (f:σ->Option σ) (k:Nat):Prop:=∀c,I c->m c+k<=549755813888->∃c',f c=some c'/\I c'/\m c'<=m c+k
theorem Gt.bind {σ:Type}{I:σ->Prop}{m:σ->Nat}{f g:σ->Option σ}{j k n:Nat}(h:Gt I m f j) (h2:Gt I m g k) (hn:j+k<=n):Gt I m (fun c=>(f c).bind g) n:=fun c hc p=>by
 obtain⟨c1,b,i1,q⟩:=h c hc (by omega);obtain⟨c2,l,i2,r⟩:=h2 c1 i1 (by omega);exact⟨c2,by show (f c).bind g=_; rw [b]; exact l,i2,by omega⟩
theorem Gt.mono {σ:Type}{I:σ->Prop}{m:σ->Nat}{f:σ->Option σ}{j n:Nat}(h:Gt I m f j) (hn:j<=n):Gt I m f n:=fun c hc g=>by
 obtain⟨c1,b,i1,k⟩:=h c hc (by omega);exact⟨c1,b,i1,by omega⟩
theorem Gt.pure {σ:Type}{I:σ->Prop}{m:σ->Nat}(k:Nat):Gt I m (fun c=>some c) k:=fun c hc _=>⟨c,rfl,hc,by omega⟩
theorem Gt.map {σ:Type}{I:σ->Prop}{m:σ->Nat}{f:σ->Option σ}{j n:Nat}(h:Gt I m f j) (hn:j<=n):Gt I m (fun c=>(f c).bind fun x=>some x) n:=h.bind (.pure 0) (by omega)
theorem Gt.list {σ α:Type}{I:σ->Prop}{m:σ->Nat}{F:List α->σ->Option σ}{g:α->σ->Option σ}{z:α->Nat}(h0:∀c,F [] c=some c) (h1:∀a r c,F (a::r) c=(g a c).bind (F r)) :
  ∀l:List α,(∀a∈l,Gt I m (g a) (z a))->Gt I m (F l) (l.map z).sum
 | [],_=>fun c hc _=>⟨c,h0 c,hc,by omega⟩
 | a::r,h=>fun c hc b=>by
  rw [h1];exact(h a (.head _)).bind (Gt.list h0 h1 r fun x hx=>h x (.tail _ hx)) (Nat.le_refl _) c hc b
theorem rq {α:Type}{f:α->Nat}{x:α}:∀{l:List α},x∈l->f x<=(l.map f).sum
 | y::r,h=>by
  simp only [List.map_cons,List.sum_cons];rcases List.mem_cons.1 h with rfl|h
  ·omega
  ·have:=rq (f:=f) h; omega
abbrev Ug (f:Sl Bs->Option (Sl Bs)) (k:Nat):Prop:=Gt (fun _=>True) (fun o=>o.l.length) f k
theorem L3:∀(n:Nat) (v:af),v.sz<n->Ug (kX n v) v.sz
 | 0,_,h=>by omega
 | n+1,v,hn=>fun o _ b=>by
  have b:o.l.length+v.sz<=549755813888:=b;have k:=v.bH;have m:=Bs.gf v.bK;have p:(v.aB.l.map af.sz).sum+1=Sl.sz af.sz v.aB:=by unfold Sl.sz; omega
  rw [kX];cases decide (v.aj=7) with
  | true =>
   rw [cond_true,fU (by decide) (by simp; omega),oB];exact⟨_,rfl,trivial,by simp; omega⟩
  | false =>
   rw [cond_false];simp only [on];cases (bif decide (v.aj=5) then decide (v.aj=5) else decide (v.aj=6)) with
   | true=>exact(((Gt.list (F:=tG (kX n)) (g:=fun a=>kX n a) (z:=af.sz) (fun _=>rfl) (fun _ _ _=>rfl) v.aB.l fun a j=>L3 n a (by have:=rq (f:=af.sz) j; omega)).map (Nat.le_refl _)).map (by omega)) o trivial b
   | false=>exact⟨o,rfl,trivial,by omega⟩
theorem L4 {a:aO}(h:a.sz<=1048576):Ug (y2 a.dr) a.sz:=(L3 F0 a.dr (by have:=a.qf; rw [ep]; omega)).mono (by have:=a.qf; omega)
theorem Uw (l:List aP) (h:∀x∈l,x.sz<=1048576):Ug (tH l) (l.map aP.sz).sum :=
 Gt.list (F:=tH) (g:=fun a=>tI a.aG.l) (z:=aP.sz) (fun _=>rfl) (fun _ _ _=>rfl) l fun a f =>
  (Gt.list (F:=tI) (g:=fun b=>y2 b.dr) (z:=aO.sz) (fun _=>rfl) (fun _ _ _=>rfl) a.aG.l fun b j=>L4 (by have:=aP.A6 j; have:=h a f; omega)).mono (by have:=a.bH; have:(a.aG.l.map aO.sz).sum+1=Sl.sz aO.sz a.aG:=by { unfold Sl.sz; omega }; omega)
theorem FQ (s:ai):(s.aG.l.map aO.sz).sum+(s.bS.l.map aP.sz).sum+(s.aK.l.map ai.sz).sum+s.cq.length+s.aa.length+3<=s.sz:=by
 have h:=s.bH; have h1:Bs.sz s.cq=s.cq.length+1:=rfl; have h2:Bs.sz s.aa=s.aa.length+1:=rfl;have b:(s.aG.l.map aO.sz).sum+1=Sl.sz aO.sz s.aG:=by unfold Sl.sz; omega
 have f:(s.bS.l.map aP.sz).sum+1=Sl.sz aP.sz s.bS:=by unfold Sl.sz; omega
 have g:(s.aK.l.map ai.sz).sum+1=Sl.sz ai.sz s.aK:=by unfold Sl.sz; omega
 omega
def Wg (q:aR) (l:List ai) (o:Sl Bs) (sp:List Bs) (p:Option (Sl Bs×List Bs)):Prop :=
 ∃o' b,p=some (o',b)/\(∀x∈sp,x∈b)/\o'.l.length+wF q.aL.l b<=o.l.length+wF q.aL.l sp+(l.map ai.sz).sum
theorem L5 {q:aR}(y:∀f∈q.aL.l,(f.aK.l.map ai.sz).sum<=1048576):∀(n:Nat) (l:Sl ai) (o:Sl Bs) (sp:List Bs),wF q.aL.l sp+(l.l.map ai.sz).sum<n->(l.l.map ai.sz).sum<=1048576->o.l.length+wF q.aL.l sp+(l.l.map ai.sz).sum<=549755813888 ->
  Wg q l.l o sp (pg n q l sp o)
 | 0,_,_,_,h,_,_=>by omega
 | n+1,l,o,sp,hn,hl,j=>by
  have B:=L5 y n;have loop:∀(l:List ai) (o:Sl Bs) (sp:List Bs),wF q.aL.l sp+(l.map ai.sz).sum<=n->(l.map ai.sz).sum<=1048576->o.l.length+wF q.aL.l sp+(l.map ai.sz).sum<=549755813888->Wg q l o sp (ru q (pg n) l o sp):=by
   intro l;induction l with
   | nil=>intro o sp _ _ _; exact⟨o,sp,rfl,fun _ h=>h,by simp⟩
   | cons s r H =>
    intro o sp hn hl j;simp only [List.map_cons,List.sum_cons] at hn hl j;have R:=FQ s;obtain⟨o1,J,-,C⟩:=Gt.list (I:=fun _=>True) (m:=fun o:Sl Bs=>o.l.length) (F:=vL) (g:=fun b=>y2 b.dr) (z:=aO.sz) (fun _=>rfl) (fun _ _ _=>rfl) s.aG.l (fun b j=>L4 (by have:=rq (f:=aO.sz) j; omega)) o trivial (by show o.l.length+_<=_; omega);have C:o1.l.length<=o.l.length+_:=C
    obtain⟨o2,K,-,E⟩:=Uw s.bS.l (fun b j=>by have:=rq (f:=aP.sz) j; omega) o1 trivial (by show o1.l.length+_<=_; omega);have E:o2.l.length<=o1.l.length+_:=E;rw [ru];simp only [on,u4];rw [J,oB,K,oB];have go:∀p,(∃o' w,p=some (o',w)/\(∀x∈sp,x∈w)/\o'.l.length+wF q.aL.l w<=o2.l.length+wF q.aL.l sp+(s.aK.l.map ai.sz).sum)->Wg q (s::r) o sp (Option.bind p fun z=>ru q (pg n) r z.1 z.2):=fun p ⟨k,t,u,v,a2⟩=>by
     have hw:=FN (fr:=q.aL.l) v;obtain⟨L,M,N,O,S⟩:=H k t (by omega) (by omega) (by omega);exact⟨L,M,by rw [u]; exact N,fun x hx=>O x (v x hx),by simp only [List.map_cons,List.sum_cons]; omega⟩
    refine go _ ?_;cases decide (s.aj=2) with
    | true =>
     rw [cond_true];cases P:(fA q.aL.l s.aa).2 with
     | false=>exact⟨o2,sp,rfl,fun _ h=>h,by omega⟩
     | true =>
      obtain⟨G,hm⟩:=sO P;cases hc:sp.contains s.aa with
      | true=>exact⟨o2,sp,rfl,fun _ h=>h,by omega⟩
      | false =>
       have hw:=LP (fr:=q.aL.l) (seen:=sp) hm (by rw [G]; simpa using hc);rw [G] at hw;obtain⟨k,t,u,v,a2⟩:=B (fA q.aL.l s.aa).1.aK o2 (cB sp s.aa) (by omega) (y _ hm) (by omega);exact⟨k,t,by simp only [Bool.not_true,Bool.or_self,cond_false]; rw [u]; rfl,fun x hx=>v x ((BT _ _ _).2 (.inl hx)),by omega⟩
    | false =>
     rw [cond_false];obtain⟨k,t,u,v,a2⟩:=B s.aK o2 sp (by omega) (by omega) (by omega);exact⟨k,t,by rw [u]; rfl,v,a2⟩
  obtain⟨k,t,u,Q⟩:=loop l.l o sp (by omega) hl j;exact⟨k,t,by rw [pg,u]; rfl,Q⟩
theorem FR {q:aR}(hq:q.sz<=1048576):wF q.aL.l []<=1048576:=by
 have h1:=q.bH;have h2:Sl.sz aY.sz q.aL=1+(q.aL.l.map aY.sz).sum:=rfl;have:∀l:List aY,wF l []<=(l.map aY.sz).sum:=fun l=>by
  unfold wF;induction l with
  | nil=>simp
  | cons f r b =>
   have:=u9 f;rw [List.filter_cons];simp only [List.contains_nil,Bool.not_false,if_true,List.map_cons,List.sum_cons] at b ⊢;omega
 have:=this q.aL.l;omega
theorem Ux {q:aR}(hq:q.sz<=1048576){i:Nat}{o:bJ}(b:q.bw.l[i]?=some o):∃u,FT q (i:Int)=some u:=by
 have aJ:i<q.bw.l.length:=(List.getElem?_eq_some_iff.1 b).1;have hz:=aR.xY (List.mem_of_getElem? b);have m:=Fa o;obtain⟨w,sp,j,-,k⟩:=L5 (u_ hq).2 F0 o.aK Sl.nil [] (by have:=FR hq; rw [ep]; omega) (by omega) (by have:=FR hq; simp only [Sl.nil,List.length_nil]; omega);have hw:=FR hq;simp only [Sl.nil,List.length_nil] at k;have loop:∀(n i:Nat) (acc:Sl Bs),i<=w.l.length->w.l.length<i+n->acc.l.length<=i->∃u,rz (w,sp) n acc (i:Int)=some u:=by
  intro n;induction n with
  | zero=>intro i acc h1 h2; omega
  | succ n f =>
   intro i acc h1 h2 p;rw [rz];by_cases aJ:i<w.l.length
   ·have g:cV (i:Int) 1=some ((i+1:Nat):Int):=by rw [fq ⟨by omega,by omega⟩]; rfl
    rw [show decide ((i:Int)<((w,sp).1.l.length:Int))=true from dT (by simp only; omega),cond_true,show dc (w,sp).1.l (i:Int)=some w.l[i] by unfold dc; simp [aJ],oB,Uy,oB];unfold y5;cases jW acc w.l[i] with
    | false =>
     rw [Bool.not_false,cond_true,fU (by decide) (by simp only [List.length_singleton]; omega),oB,g,oB];exact f (i+1) _ (by omega) (by omega) (by simp only [List.length_append,List.length_singleton]; omega)
    | true =>
     rw [Bool.not_true,cond_false,g,oB];exact f (i+1) _ (by omega) (by omega) (by omega)
   ·rw [show decide ((i:Int)<((w,sp).1.l.length:Int))=false from dF (by simp only; omega),cond_false];exact⟨_,rfl⟩
 unfold FT Cd;rw [show decide ((i:Int)<(0:Int))=false from dF (by omega),show decide (((q.bw.l.length:Nat):Int)<=(i:Int))=false from dF (by omega),Bool.or_self,cond_false,
  show dc q.bw.l (i:Int)=some o by unfold dc; rw [if_pos (by simp),Int.toNat_natCast,b],oB,UA]
 unfold FU;rw [j,oB];exact loop F0 0 Sl.nil (by omega) (by rw [ep]; omega) (Nat.le_refl _)
theorem UB {q:aR}(hq:q.sz<=1048576) (l:Sl ai) (hl:(l.l.map ai.sz).sum<=1048576):∃s b,y7 q l=some (s,b)/\s.l.length<=q.aL.l.length:=by
 have f:=u_ hq;have hu:=E9 q.aL [];have h1:=f.1;have hm:fQ q.aL []*(1048576+1)<=1048576*(1048576+1):=Nat.mul_le_mul_right _ (by omega);obtain⟨s,b,e,_,h2⟩:=E_ f.2 F0 l Sl.nil (by rw [ep]; simp only [Sl.nil]; omega) hl (by simp only [Sl.nil,List.length_nil]; omega);simp only [Sl.nil,List.length_nil] at h2;have loop:∀(t:List Bs) (b:Bool),∃g,rA q t b=some g:=by
  intro t;induction t with
  | nil=>intro b; exact⟨b,rfl⟩
  | cons a r j =>
   intro b;rw [rA];simp only [on,u4];obtain⟨v,hv⟩:=Kd f (fA q.aL.l a).1 (by
    cases h:(fA q.aL.l a).2
    ·unfold fA at h ⊢;cases hh:q.aL.l.find? (fun t=>t.aa==a) with
     | none=>decide
     | some t=>rw [hh] at h; cases h
    ·exact f.2 _ (sO h).2)
   cases b
   ·exact j _
   ·simp only [a_,if_true];rw [hv,oB];exact j _
 obtain⟨g,k⟩:=loop s.l b;refine⟨s,g, ?_,by omega⟩;unfold y7 sP;rw [e,oB,k];rfl
abbrev Vg (d:an) (vs:Sl bN) (f:bf->Option bf) (k:Nat):Prop:=Gt (fun c:bf=>c.Fd=d/\c.dG=vs) (fun c=>c.aC.l.length) f k
structure Vi (d:an) (vs:Sl bN):Prop where
 ds:BJ d
 vs:∀x∈vs.l,bX x.aM.av
section
variable {d:an}{vs:Sl bN}
theorem L6 (b:Bool) (e:Int) (s:Bs):Vg d vs (fun c=>jB c b e s) 1:=fun c hc f=>by
 have f:c.aC.l.length+1<=549755813888:=f;show ∃c',jB c b e s=some c'/\_;unfold jB;cases b with
 | false=>exact⟨c,rfl,hc,Nat.le_succ _⟩
 | true =>
  rw [cond_true,jL (by decide) (by simp only [List.length_singleton]; omega),oB];exact⟨_,rfl,hc,by simp⟩
theorem y8 {c:bf}(hc:c.Fd=d/\c.dG=vs) (f:c.aC.l.length+1<=549755813888) (b:Bool) (e:Int) (s:Bs):∃c',jB c b e s=some c'/\(c'.Fd=d/\c'.dG=vs)/\c'.aC.l.length<=c.aC.l.length+1:=L6 b e s c hc f
theorem FV (p:Vi d vs):∀(n:Nat) (v:af) (t:ax) (known:Bool) (at_:Bs),v.sz<n->bX t.av->Vg d vs (fun c=>iF n c v t known at_) v.sz
 | 0,_,_,_,_,h,_=>by omega
 | n+1,v,t,known,at_,hn,ht=>fun c hc k=>by
  have N:=v.bH;have O:=Bs.gf v.bK;have P:(v.aB.l.map af.sz).sum+1=Sl.sz af.sz v.aB:=by unfold Sl.sz; omega
  have it:∀a∈v.aB.l,a.sz<n:=fun a q=>by have:=rq (f:=af.sz) q; omega
  show ∃c',iF (n+1) c v t known at_=some c'/\_;rw [iF];by_cases u:v.aj=7
  ·rw [dT u,cond_true];simp only [on];have fin:∀b:Bool,∃c',((jB c b (27:Int) at_).bind fun G=>some G)=some c'/\(c'.Fd=d/\c'.dG=vs)/\c'.aC.l.length<=c.aC.l.length+v.sz:=fun b=>((L6 b 27 at_).map (by omega):Vg d vs _ v.sz) c hc k;rcases TS c.dG (fun H=>y9 H v) with ⟨i,hi,s,-⟩|⟨s,-⟩
   ·rw [s,show decide ((i:Int)<(0:Int))=false from dF (by omega),show (if (0:Int)>(i:Int) then(0:Int) else(i:Int))=(i:Int) from if_neg (by omega)];have I:dc c.dG.l (i:Int)=some c.dG.l[i]:=by unfold dc; rw [if_pos (by omega),Int.toNat_natCast,List.getElem?_eq_getElem hi]
    have J:=TR (p.vs _ (by rw [<- hc.2]; exact List.getElem_mem hi)) ht;cases known
    ·simp only [a_,Bool.and_false,Bool.false_eq_true,if_false];exact fin _
    ·simp only [a_,Bool.not_false,Bool.and_self,if_true,Bool.true_and];rw [I,oB];unfold Ce;rw [J,oB,oB];exact fin _
   ·rw [s,show decide ((-1:Int)<(0:Int))=true from rfl];simp only [a_,Bool.not_true,Bool.false_and,if_false,Bool.true_or];exact fin _
  ·rw [dF u,cond_false];by_cases w:v.aj=5
   ·rw [dT w,cond_true,yc ht,oB];have y:bX (bif eZ (cQ t.av).l then(jO t,true) else((⟨[],Sl.nil⟩:ax),false)).1.av:=by
     cases eZ (cQ t.av).l
     ·exact BK
     ·exact yb ht
    generalize (bif eZ (cQ t.av).l then(jO t,true) else((⟨[],Sl.nil⟩:ax),false))=m at y ⊢;exact(((Gt.list (F:=tJ known at_ m (iF n)) (g:=fun a c=>iF n c a m.1 (known&&m.2) at_) (z:=af.sz) (fun _=>rfl) (fun _ _ _=>rfl) v.aB.l fun a q=>FV p n a m.1 (known&&m.2) at_ (it a q) y).map (by omega)):Vg d vs _ v.sz) c hc k
   ·rw [dF w,cond_false];by_cases B:v.aj=6
    ·rw [dT B,cond_true];simp only [on];have C:∀i∈(cL c.Fd t.aa).1.bG.l,bX i.aM.av:=by
      rw [hc.1];rcases FC d t.aa with ⟨e,-⟩|h
      ·rw [e]; intro i hi; cases hi
      ·exact(p.ds _ h).1
     generalize cL c.Fd t.aa=j at C ⊢;have loop:∀(l:List af) (i:Nat),(∀x∈l,x.sz<n)->Vg d vs (ph v known at_ j (iF n) l i) (l.map af.sz).sum:=by
      intro l;induction l with
      | nil=>intro i _; exact Gt.pure _
      | cons a r K =>
       intro i hx;have hz:∃z:Bool×az,(bif (((j.2&&known)&&(decide (j.1.aj=(5:Int))))&&(decide (((i:Nat):Int)<((v.aX.l.length:Nat):Int)))) then((v.aX.l[i]?).bind fun E=>some ((iq j.1.bG E).2,(iq j.1.bG E).1)) else(some (false,az.zero)))=some z/\bX z.2.aM.av:=by
        by_cases aJ:i<v.aX.l.length
        ·rw [show decide (((i:Nat):Int)<((v.aX.l.length:Nat):Int))=true from dT (by omega),List.getElem?_eq_getElem aJ,oB];cases (((j.2&&known)&&(decide (j.1.aj=(5:Int))))&&true)
         ·exact⟨_,rfl,BK⟩
         ·exact⟨_,rfl,Lt C _⟩
        ·rw [show decide (((i:Nat):Int)<((v.aX.l.length:Nat):Int))=false from dF (by omega),Bool.and_false];exact⟨_,rfl,BK⟩
       obtain⟨z,L,M⟩:=hz;intro c hc k;rw [ph];simp only [on];rw [L,oB];exact((FV p n a _ _ at_ (hx a (.head _)) M).bind (K (i+1) fun x h=>hx x (.tail _ h)) (Nat.le_refl _):Vg d vs _ _) c hc k
     exact((loop v.aB.l 0 it).map (by omega):Vg d vs _ v.sz) c hc k
    ·rw [dF B];exact⟨c,rfl,hc,by simp only; omega⟩
theorem L7 (b:Vi d vs){a:aO}(h:a.sz<=1048576){t:ax}(ht:bX t.av) (known:Bool) (at_:Bs):Vg d vs (fun c=>y_ c a.dr t known at_) a.sz :=
 (FV b F0 a.dr t known at_ (by have:=a.qf; rw [ep]; omega) ht).mono (by have:=a.qf; omega)
theorem UC:∃t,ou (ov ([66,111,111,108,101,97,110]:Bs))=some t/\bX t.av:=⟨⟨[66,111,111,108,101,97,110],⟨false,[1]⟩⟩,by rfl,fun h=>by(cases h),by show 1<=_; omega⟩
theorem L8 (f:Vi d vs) (s:Sl aP) (at_:Bs) (hx:∀a∈s.l,a.sz<=1048576):Vg d vs (fun c=>kY c s at_) (s.l.map aP.sz).sum:=by
 obtain⟨t,e,ht⟩:=UC;refine Gt.map (Gt.list (F:=rB at_) (g:=fun a=>pn at_ a a.aG.l) (z:=aP.sz) (fun _=>rfl) (fun _ _ _=>rfl) s.l fun a j=>?_) (Nat.le_refl _);refine(Gt.list (F:=pn at_ a) (g:=fun b c=>(ou (ov ([66,111,111,108,101,97,110]:Bs))).bind fun k=>y_ c b.dr k (b.aa==[105,102]&&(a.aa==[115,107,105,112]||a.aa==[105,110,99,108,117,100,101])) at_) (z:=aO.sz) (fun _=>rfl) (fun b r c=>?_) a.aG.l fun b m=>?_).mono (by have:=a.bH; have:(a.aG.l.map aO.sz).sum+1=Sl.sz aO.sz a.aG:=by { unfold Sl.sz; omega }; omega)
 ·rw [pn];simp only [on];rw [e]; rfl
 ·simp only [e,oB];exact L7 f (by have:=aP.A6 m; have:=hx a j; omega) ht _ at_
def Cf (d:an) (vs:Sl bN) (n:Nat):Prop:=∀(l:Sl ai) (b at_:Bs),2*(l.l.map ai.sz).sum<n->(l.l.map ai.sz).sum<=1048576->at_.length+2*(l.l.map ai.sz).sum<=100000000->Vg d vs (fun c=>ja n c l b at_) (l.l.map ai.sz).sum
def FW (d:an) (vs:Sl bN) (n:Nat):Prop:=∀(s:ai) (b at_:Bs),2*(s.aK.l.map ai.sz).sum+1<n->s.sz<=1048576->at_.length+2*s.sz<=100000000->Vg d vs (fun c=>ko n c s b at_) s.sz
theorem UD (k:Vi d vs){n:Nat}(h:Cf d vs n):FW d vs (n+1):=fun s b at_ hn hz m c hc q=>by
 have r:=FQ s;show ∃c',ko (n+1) c s b at_=some c'/\_;rw [ko];simp only [on];have hk:(bif (s.cq==([]:Bs)) then s.aa else s.cq).length<=s.cq.length+s.aa.length:=by
  cases (s.cq==([]:Bs))<;>simp
 generalize (bif (s.cq==([]:Bs)) then s.aa else s.cq)=key at hk ⊢;rw [eY (by simp; omega),oB,eY (by simp; omega),oB,hc.1];have p:∀i∈(bif ((cL d b).2&&(bif (cL d b).2 then fC d b else false)) then((kM (cL d b).1 s.aa).1) else(aT.zero)).aG.l,bX i.aM.av:=by
  have h0:∀f∈(cL d b).1.bA.l,∀i∈f.aG.l,bX i.aM.av:=by
   rcases FC d b with ⟨-,e⟩|h
   ·rw [e]; intro i hi; cases hi
   ·exact(k.ds _ h).2
  cases ((cL d b).2&&(bif (cL d b).2 then fC d b else false))
  ·intro i hi; cases hi
  ·exact TT h0 _
 generalize (bif ((cL d b).2&&(bif (cL d b).2 then fC d b else false)) then((kM (cL d b).1 s.aa).1) else(aT.zero))=fd at p ⊢;have hlen:(at_++([47]++key:Bs)).length<=at_.length+1+s.cq.length+s.aa.length:=by simp; omega
 generalize (at_++([47]++key:Bs))=j at hlen ⊢;have g1:Vg d vs (pq j fd s.aG.l) (s.aG.l.map aO.sz).sum:=Gt.list (F:=pq j fd) (g:=fun a c=>y_ c a.dr (iq fd.aG a.aa).1.aM (iq fd.aG a.aa).2 j) (z:=aO.sz) (fun _=>rfl) (fun _ _ _=>rfl) s.aG.l fun a m =>
  L7 k (by have:=rq (f:=aO.sz) m; omega) (Lt p _) _ j
 have g2:Vg d vs (fun c=>kY c s.bS j) (s.bS.l.map aP.sz).sum:=L8 k s.bS j fun x hx=>by have:=rq (f:=aP.sz) hx; omega
 exact(g1.bind (g2.bind ((h s.aK fd.aM.aa j (by omega) (by omega) (by omega)).map (Nat.le_refl _)) (Nat.le_refl _)) (by omega):Vg d vs _ s.sz) c hc q
theorem UE (j:Vi d vs){n:Nat}(h:Cf d vs n) (k:FW d vs n):Cf d vs (n+1):=fun l b at_ hn hz p=>by
 have key:Vg d vs (pu b at_ (ko n) (ja n) l.l) (l.l.map ai.sz).sum:=by
  refine Gt.list (F:=pu b at_ (ko n) (ja n)) (z:=ai.sz)
   (g:=fun s c=>bif decide (s.aj=2) then(kY c s.bS at_).bind fun x=>some x else bif decide (s.aj=3) then(kY c s.bS at_).bind fun x=>(ja n x s.aK (bif !(s.b9==([]:Bs)) then s.b9 else b) at_).bind fun x=>some x else(ko n c s b at_).bind fun x=>some x)
   (fun _=>rfl) (fun _ _ _=>rfl) l.l fun s m=>?_
  have q:=FQ s;have hm:=pW m;have g2:Vg d vs (fun c=>kY c s.bS at_) (s.bS.l.map aP.sz).sum:=L8 j s.bS at_ fun x hx=>by have:=rq (f:=aP.sz) hx; omega
  cases decide (s.aj=2) with
  | true=>exact g2.map (by omega)
  | false =>
   cases decide (s.aj=3) with
   | true=>exact g2.bind ((h s.aK _ at_ (by omega) (by omega) (by omega)).map (Nat.le_refl _)) (by omega)
   | false=>exact(k s b at_ (by omega) (by omega) (by omega)).map (Nat.le_refl _)
 exact key.map (Nat.le_refl _)
theorem Cg (b:Vi d vs):∀n,Cf d vs n/\FW d vs n
 | 0=>⟨fun _ _ _ h=>by omega,fun _ _ _ h=>by omega⟩
 | n+1=>⟨UE b (Cg b n).1 (Cg b n).2,UD b (Cg b n).1⟩
theorem L9 (f:Vi d vs) (l:Sl ai) (b at_:Bs) (h:(l.l.map ai.sz).sum<=1048576) (g:at_.length<=1048576):Vg d vs (fun c=>Ch c l b at_) (l.l.map ai.sz).sum:=(Cg f F0).1 l b at_ (by rw [ep]; omega) h (by omega)
end
theorem UF (n:Nat):Wv (n+1) (af.mk 6 0 [] true [] Sl.nil):=(vm.kind 6).mono (by omega)
theorem UG {N:Nat}{d:an}{vs:Sl bN}(s:N<=1073741000) (t:vq (N+1) d) (b:bJ) (a2:Sl Bs) (hx:∀x∈b.fe.l,bX x.aM.av/\Wv (N+1) x.dZ):Vg d vs (fun c=>Ci c b a2) (5*b.fe.l.length):=by
 have loop:∀(l:List bN) (i:Nat),(∀x∈l,bX x.aM.av/\Wv (N+1) x.dZ)->Vg d vs (px b a2 l i) (5*l.length):=by
  intro l;induction l with
  | nil=>intro i _; exact Gt.pure _
  | cons x r u =>
   intro i hx c hc v;obtain⟨w,z⟩:=hx x (.head _);simp only [List.length_cons] at v ⊢;rw [px];simp only [on];generalize Cj _ _=B;obtain⟨c1,C,i1,O⟩:=y8 hc (by omega) B 7 b.aa;rw [C,oB,i1.1];generalize ((cL d x.aM.aa).2||bif !(cL d x.aM.aa).2 then oS x.aM.aa else false)=p;generalize ni d x.aM.aa=g;obtain⟨c2,E,i2,P⟩:=y8 i1 (by omega) (!p) 8 b.aa
   obtain⟨c3,F,i3,Q⟩:=y8 i2 (by omega) (p&&!g) 10 b.aa;rw [E,oB,F,oB];have j:∃f,(bif x.eC&&g then(vr c3.Fd x.aM x.dZ (af.mk 6 0 [] true [] Sl.nil)).bind fun G=>(jB c3 (!decide (G.2=(0:Int))) (23:Int) b.aa).bind fun H=>some H else some c3)=some f/\(f.Fd=d/\f.dG=vs)/\f.aC.l.length<=c3.aC.l.length+1:=by
    cases (x.eC&&g) with
    | false=>exact⟨c3,rfl,i3,by omega⟩
    | true =>
     obtain⟨R,I,J⟩:=TJ s t x.aM x.dZ _ w z (UF N);rw [cond_true,i3.1,J,oB];obtain⟨f,k,j⟩:=y8 i3 (by omega) (!decide (I=(0:Int))) 23 b.aa;exact⟨f,by rw [k]; rfl,j⟩
   obtain⟨f,k,i4,S⟩:=j;rw [k,oB];obtain⟨c5,K,i5,U⟩:=y8 i4 (by omega) (!jW a2 x.aa) 26 b.aa;rw [K,oB];obtain⟨m,L,i6,q⟩:=u (i+1) (fun y M=>hx y (.tail _ M)) c5 i5 (by show c5.aC.l.length+_<=_; omega);have q:m.aC.l.length<=c5.aC.l.length+_:=q;exact⟨m,L,i6,by show m.aC.l.length<=c.aC.l.length+_; omega⟩
 exact(loop b.fe.l 0 hx).map (Nat.le_refl _)
theorem FX:∀l:List Bs,(l.map fun _=>1048576).sum=1048576*l.length
 | []=>rfl
 | a::r=>by simp only [List.map_cons,List.sum_cons,List.length_cons,FX r]; omega
theorem UH {N:Nat}{d:an}{q:aR}(w:N<=1073741000) (y:vq (N+1) d) (hS:BJ d) (hq:q.sz<=1048576) (I:q.bw.l.length+q.aL.l.length<=64) (hv:∀o∈q.bw.l,∀x∈o.fe.l,bX x.aM.av/\Wv (N+1) x.dZ) :
  ∃l,za d q=some l/\l.l.length<=5120000000:=by
 have loop:∀(l:List bJ) (i:Nat) (c:bf),q.bw.l.drop i=l->c.Fd=d->c.aC.l.length+80000000*l.length<=5120000000->∃c',py q l i c=some c'/\c'.aC.l.length<=5120000000:=by
  intro l;induction l with
  | nil=>intro i c _ _ j; exact⟨c,rfl,by simpa using j⟩
  | cons o r B =>
   intro i c hl hd j;simp only [List.length_cons] at j;have t3:q.bw.l[i]?=some o:=by rw [<- List.head?_drop,hl]; rfl
   have t2:q.bw.l.drop (i+1)=r:=by rw [<- List.tail_drop,hl]; rfl
   have k:o∈q.bw.l:=List.mem_of_getElem? t3;have hz:=aR.xY k;have J:=Fa o;have K:o.fe.l.length<=1048576:=by
    have h1:=o.bH;have h2:=Sl.gR (f:=bN.sz) o.fe bN.pos;omega
   have v:Vi d o.fe:=⟨hS,fun x hx=>(hv o k x hx).1⟩;obtain⟨u,C⟩:=Ux hq t3;obtain⟨s,b,E,L⟩:=UB hq o.aK (by omega);rw [py];simp only [on];rw [C,oB];obtain⟨c1,f1,i1,G⟩:=(UG w y o u (hv o k):Vg d o.fe _ _) (bf.mk c.Fd o.fe c.aC) ⟨hd,rfl⟩ (by simp only; omega);dsimp only at G f1;rw [f1,oB];obtain⟨c2,f2,i2,H⟩:=L9 v o.aK (gE o.aj) o.aa (by omega) (by omega) c1 i1 (by simp only; omega)
   dsimp only at H f2;rw [f2,oB,E,oB];have m:∀n:Bs,((fA q.aL.l n).1.aK.l.map ai.sz).sum<=1048576/\(fA q.aL.l n).1.aa.length<=1048576:=fun n=>by
    unfold fA;cases h:q.aL.l.find? (fun t=>t.aa==n) with
    | none=>exact⟨by decide,by decide⟩
    | some f =>
     have h1:=aR.xZ (List.mem_of_find?_eq_some h);have h2:=u9 f;exact⟨by show (f.aK.l.map ai.sz).sum<=_; omega,by show f.aa.length<=_; omega⟩
   obtain⟨c3,f3,i3,p⟩:=(Gt.list (F:=tK q) (g:=fun n c=>Ch c (jV q n).1.aK (jV q n).1.b9 (jV q n).1.aa) (z:=fun _=>1048576) (fun _=>rfl) (fun _ _ _=>rfl) s.l fun n _=>by
    rw [u4];exact(L9 v _ _ _ (m n).1 (m n).2).mono (m n).1:Vg d o.fe _ _) c2 i2 (by rw [FX]; show c2.aC.l.length+_<=_; omega)
   rw [FX] at p;have p:c3.aC.l.length<=c2.aC.l.length+_:=p;simp only;rw [f3,oB];exact B (i+1) c3 t2 i3.1 (by omega)
 obtain⟨c,h1,h2⟩:=loop q.bw.l 0 (bf.mk d Sl.nil Sl.nil) rfl rfl (by show 0+_<=_; omega);unfold za;rw [h1];exact⟨c.aC,rfl,h2⟩
end Go.Proofs
namespace Go.Proofs
open Go Go.Ab
abbrev zb (o:Option Z3) (c:Z3) (P:Prop):Prop:=Ps Z3.Fd (fun c=>c.aC.l.length) id o c P
theorem pz (c:Z3) (b:Bool) (e:Int) (s:Bs):zb (iW c b e s) c (b=false):=by
 unfold iW;cases b
 ·exact Ps.pure rfl rfl
 ·rw [cond_true];intro a f;cases h:bq 24 c.aC ⟨false,[Z9.mk e s]⟩ with
  | none=>rw [h] at f; cases f
  | some v =>
   have hv:=SC h;rw [h] at f; cases f;simp only [List.length_singleton] at hv;exact⟨rfl,by show c.aC.l.length<=v.l.length; omega,fun e=>absurd (show v.l.length=c.aC.l.length from e) (by omega)⟩
theorem Ck:∀(n:Nat) (l:Sl ai) (f at_:Bs) (c:Z3),zb (iE n c l f at_) c True
 | 0,_,_,_,_=>fun a e=>by cases e
 | n+1,l,f,at_,c=>by
  have two:∀(c:Z3) (b:Bool) (e:Int) (g:Bool) (p:Z3->Option Bool) (k:Z3->Bool->Bool),zb ((iW c b e at_).bind fun j=>a_ g (p j) false fun m=>(iW j (k j m) (25:Int) at_).bind fun q=>some q) c True:=fun c b e g p k =>
   Ps.bind (pz _ _ _ _) (Q:=True) (fun _ _=>trivial) fun c1 _ _=>Ps.guard fun v=>Ps.bind (pz _ _ _ _) (Q:=True) (fun _ _=>trivial) fun c2 _ _=>Ps.pure rfl trivial
  have loop:∀(t:List ai) (c:Z3),zb (lT f at_ (iE n) t c) c True:=by
   intro t;induction t with
   | nil=>intro c; exact Ps.pure rfl trivial
   | cons x r s =>
    intro c;rw [lT];simp only [on];refine Ps.bind (P:=True) (pr:=id) ?_ (Q:=True) (fun _ _=>trivial) fun c1 _ _=>s c1;refine Ps.cond (fun _=>?_) fun _=>Ps.cond (fun _=>?_) fun _=>?_
    ·refine Ps.bind (pz _ _ _ _) (Q:=True) (fun _ _=>trivial) fun c1 _ _=>Ps.guard fun v=>Ps.bind (pz _ _ _ _) (Q:=True) (fun _ _=>trivial) fun c2 _ _=>Ps.pure rfl trivial
    ·refine Ps.bind (pr:=fun z:Bs×Z3=>z.2) (P:=True) ?_ (Q:=True) (fun _ _=>trivial) fun z _ _=>Ps.bind (Ck n x.aK z.1 at_ z.2) (Q:=True) (fun _ _=>trivial) fun c2 _ _=>Ps.pure rfl trivial;refine Ps.cond (fun _=>?_) fun _=>Ps.pure rfl trivial;exact Ps.bind (pz _ _ _ _) (Q:=True) (fun _ _=>trivial) fun c1 _ _=>Ps.guard fun v=>Ps.bind (pz _ _ _ _) (Q:=True) (fun _ _=>trivial) fun c2 _ _=>Ps.pure rfl trivial
    ·exact Ps.any fun a _=>Ps.any fun b _=>Ps.bind (Ck n x.aK _ _ c) (Q:=True) (fun _ _=>trivial) fun c2 _ _=>Ps.pure rfl trivial
  rw [iE];exact Ps.bind (loop l.l c) (Q:=True) (fun _ _=>trivial) fun c1 _ _=>Ps.pure rfl trivial
theorem L_ {d:an}{q:aR}(M:List Bs):∀(l:List aY) (c:Z3),zb (lV d q M l c) c (∀o∈l,jX q o=some false)
 | [],c=>Ps.pure rfl fun _ h=>by cases h
 | o::r,c=>by
  rw [lV];simp only [on];refine Ps.bind (pz _ _ _ _) (Q:=∀x∈o::r,jX q x=some false) (fun _ h=>h) fun c1 _ _=>Ps.any fun w hw=>?_;refine Ps.bind (pz _ _ _ _) (Q:=∀x∈r,jX q x=some false) (fun h h2 y b=>?_) fun c2 _ _=>?_
  ·rcases List.mem_cons.1 b with rfl|b
   ·rw [hw,h]
   ·exact h2 y b
  ·refine Ps.bind (pz _ _ _ _) (Q:=∀x∈r,jX q x=some false) (fun _ h=>h) fun c3 _ _=>?_;exact Ps.bind (Ck F0 o.aK o.b9 o.aa c3) (Q:=∀x∈r,jX q x=some false) (fun _ h=>h) fun f _ _=>L_ M r f
theorem Ma {q:aR}:∀(l:List bJ) (c:Z3) (m:List Bs) (z:Z3×List Bs),lU q l c m=some z->c.aC.l.length<=z.1.aC.l.length
 | [],c,m,z,h=>by cases h; exact Nat.le_refl _
 | o::r,c,m,z,h=>by
  rw [lU] at h;simp only [on] at h;obtain⟨c1,b,h⟩:=Option.bind_eq_some_iff.1 h;obtain⟨w,f,h⟩:=Option.bind_eq_some_iff.1 h;exact Nat.le_trans (Ck F0 _ _ _ _ _ b).2.1 (Ma r _ _ _ h)
theorem UI {d:an}{q:aR}{l:Sl Z9}(h:sS d q=some l) (h0:l.l=[]):tC q.aL.l:=by
 unfold sS at h;obtain⟨z,e,h⟩:=Option.bind_eq_some_iff.1 h;obtain⟨c,b,h⟩:=Option.bind_eq_some_iff.1 h;simp only [on,Option.some.injEq] at h;have g1:=Ma _ _ _ _ e;obtain⟨-,g2,f⟩:=L_ (d:=d) z.2 q.aL.l z.1 c b;have hc:c.aC.l.length=0:=by rw [h,h0]; rfl
 have g2:z.1.aC.l.length<=c.aC.l.length:=g2;exact Ui (f (show c.aC.l.length=z.1.aC.l.length by omega))
theorem UJ (l:Sl ai):∃b,tL l=some b:=by
 unfold tL;cases hl:l.l with
 | nil=>exact⟨_,rfl⟩
 | cons s r =>
  cases r with
  | cons b t =>
   have h1:decide ((((s::b::t:List ai).length:Nat):Int)=(1:Int))=false:=dF (by simp only [List.length_cons]; omega);rw [h1];exact⟨_,rfl⟩
  | nil =>
   simp only [a_,List.length_singleton,List.getElem?_cons_zero,oB,Int.natCast_one,decide_true,Bool.not_true,Bool.not_false,if_true,Bool.false_or];cases decide (s.aj=(1:Int)) with
   | false=>exact⟨_,rfl⟩
   | true =>
    simp only [Bool.not_true,Bool.not_false,if_true,oB,Bool.false_or];cases s.aa==([95,95,116,121,112,101,110,97,109,101]:Bs) with
    | true=>exact⟨_,rfl⟩
    | false =>
     rw [cond_false,on];cases tM s.bS.l<;>exact⟨_,rfl⟩
def aU (d:an) (q:aR) (i:Nat) (o:bJ):Prop:=(o.aa≠[]->∀p∈q.bw.l.take i,p.aa≠o.aa)/\(o.aa=[]->q.bw.l.length<=1)/\(cL d (gE o.aj)).2=true
theorem Mb (o:bJ):∀(l:List bJ),∃s:Sl Z9,(pE o l (Sl.nil:Sl Z9)=some (Sum.inl s)\/pE o l (Sl.nil:Sl Z9)=some (Sum.inr s))/\s.l.length<=1/\(s.l=[]->o.aa≠[]->∀p∈l,p.aa≠o.aa)
 | []=>⟨_,.inl rfl,Nat.zero_le _,fun _ _ _ h=>by cases h⟩
 | p::r=>by
  rw [pE];simp only [on];cases h:(!(o.aa==([]:Bs))&&(p.aa==o.aa)) with
  | true =>
   rw [cond_true,fU (by decide) (by simp [Sl.nil]),oB];exact⟨_,.inr rfl,by simp [Sl.nil],fun h=>by cases h⟩
  | false =>
   obtain⟨z,e,h1,h2⟩:=Mb o r;refine⟨z,e,h1,fun a hn x hx=>?_⟩;rcases List.mem_cons.1 hx with rfl|hx
   ·intro e; simp_all
   ·exact h2 a hn x hx
theorem UK (d:an) (q:aR){i:Nat}{o:bJ}(m:q.bw.l[i]?=some o):∃s,zc d q (i:Int)=some s/\s.l.length<=4/\(s.l=[]->aU d q i o):=by
 have aJ:i<q.bw.l.length:=(List.getElem?_eq_some_iff.1 m).1;unfold zc;rw [show dc q.bw.l (i:Int)=some o by unfold dc; rw [if_pos (by simp),Int.toNat_natCast,m],oB,Q.mB (by omega),oB];obtain⟨r,e,G,t⟩:=Mb o (q.bw.l.take i);have add:∀(s:Sl Z9) (b:Bool) (x:Z9),s.l.length<=10->∃f,(bif b then((bq 24 s (⟨false,[x]⟩:Sl Z9)).bind fun u=>some u) else(some s))=some f/\f.l.length<=s.l.length+1/\s.l.length<=f.l.length/\(f.l.length=s.l.length->b=false):=fun s b x H=>by
  cases b with
  | false=>exact⟨s,rfl,by omega,by omega,fun _=>rfl⟩
  | true =>
   rw [cond_true,fU (by decide) (by simp only [List.length_singleton]; omega)];exact⟨_,rfl,by simp,by simp,fun h=>by simp at h⟩
 rcases e with e|e;all_goals
  simp only [e,oB];obtain⟨w,y,I,a2,a3⟩:=add r ((o.aa==([]:Bs))&&decide ((1:Int)<((q.bw.l.length:Nat):Int))) ⟨6,[]⟩ (by omega);rw [y,oB];simp only [on];obtain⟨g,z,J,K,B⟩:=add w (!(cL d (gE o.aj)).2) ⟨30,o.aa⟩ (by omega);rw [z,oB];obtain⟨v,hv⟩:=UJ o.aK;have key:∀j:Bool,∃s,(Option.bind (bif ((decide (o.aj=(3:Int)))&&(!j)) then((bq 24 g (⟨false,[(Z9.mk 30 o.aa)]⟩:Sl Z9)).bind fun C=>some C) else(some g)) fun E=>some E)=some s/\s.l.length<=4/\(s.l=[]->aU d q i o):=fun j=>by
   obtain⟨p,F,c1,c2,c3⟩:=add g ((decide (o.aj=(3:Int)))&&(!j)) ⟨30,o.aa⟩ (by omega);rw [F];refine⟨p,rfl,by omega,fun hn=>?_⟩;have hn:p.l.length=0:=by rw [hn]; rfl
   refine⟨t (List.length_eq_zero_iff.1 (by omega)),fun he=>?_, ?_⟩
   ·have h:=a3 (by omega);rw [he] at h;have h:decide ((1:Int)<((q.bw.l.length:Nat):Int))=false:=by simpa using h
    have:=of_decide_eq_false h;omega
   ·have h:=B (by omega)
    simpa using h
  rw [hv];cases hC:decide (o.aj=(3:Int)) with
  | false=>have k:=key false; rw [hC] at k; exact k
  | true=>have k:=key v; rw [hC] at k; exact k
theorem UL (d:an) (q:aR) (I:q.bw.l.length+q.aL.l.length<=64):∃l,zd d q=some l/\(l.l=[]->∀i o,q.bw.l[i]?=some o->aU d q i o):=by
 have ops:∀(l:List bJ) (i:Nat) (s:Sl Z9),q.bw.l.drop i=l->i<=q.bw.l.length->s.l.length<=4*i->∃b,rC d q l i s=some b/\b.l.length<=4*q.bw.l.length/\s.l.length<=b.l.length/\(b.l.length=s.l.length->∀k o,l[k]?=some o->aU d q (i+k) o):=by
  intro l;induction l with
  | nil =>
   intro i s hl hi j;have:q.bw.l.length<=i:=List.drop_eq_nil_iff.1 hl;exact⟨s,rfl,by omega,Nat.le_refl _,fun _ k o h=>by simp at h⟩
  | cons o r g =>
   intro i s hl hi j;have t3:q.bw.l[i]?=some o:=by rw [<- List.head?_drop,hl]; rfl
   have aJ:i<q.bw.l.length:=(List.getElem?_eq_some_iff.1 t3).1;obtain⟨x,e,y,a2⟩:=UK d q t3;rw [rC,e,oB,fU (by decide) (by omega),oB];obtain⟨b,m,B,u,v⟩:=g (i+1) ⟨s.nl&&x.l.isEmpty,s.l++x.l⟩ (by rw [<- List.tail_drop,hl]; rfl) (by omega) (by simp only [List.length_append]; omega);simp only [List.length_append] at u v;refine⟨b,m,B,by omega,fun he k o' w=>?_⟩
   cases k with
   | zero =>
    obtain rfl:o=o':=by simpa using w
    exact a2 (List.length_eq_zero_iff.1 (by omega))
   | succ k =>
    have:=v (by omega) k o' (by simpa using w)
    rwa [show i+1+k=i+(k+1) by omega] at this
 have C:∀(f:aY) (l:List aY) (s:Sl Z9),s.l.length<=1000->∃z:Sl Z9 ⊕ Sl Z9,rD f l s=some z/\(z=Sum.inl s\/∃b,z=Sum.inr b/\b.l.length=s.l.length+1):=by
  intro f l;induction l with
  | nil=>intro s _; exact⟨_,rfl,.inl rfl⟩
  | cons p r g =>
   intro s j;rw [rD];simp only [on];cases p.aa==f.aa with
   | true =>
    rw [cond_true,fU (by decide) (by simp only [List.length_singleton]; omega),oB];exact⟨_,rfl,.inr ⟨_,rfl,by simp⟩⟩
   | false=>exact g s j
 have E:∀(l:List aY) (i:Nat) (s:Sl Z9),s.l.length+l.length<=1000->∃b,nv q l i s=some b/\s.l.length<=b.l.length:=by
  intro l;induction l with
  | nil=>intro i s _; exact⟨s,rfl,Nat.le_refl _⟩
  | cons f r g =>
   intro i s j;simp only [List.length_cons] at j;rw [nv];simp only [on];obtain⟨z,e,hz⟩:=C f (q.aL.l.take i) s (by omega);rw [e,oB];rcases hz with rfl|⟨b,rfl,J⟩
   ·rw [oB];exact g (i+1) s (by omega)
   ·rw [oB];obtain⟨t,m,h2⟩:=g (i+1) b (by omega);exact⟨t,m,by omega⟩
 obtain⟨F,G,y,-,a3⟩:=ops q.bw.l 0 (Sl.nil:Sl Z9) rfl (Nat.zero_le _) (Nat.zero_le _);obtain⟨t,m,u⟩:=E q.aL.l 0 F (by omega);refine⟨t, ?_,fun hn i o H=>?_⟩
 ·unfold zd;rw [G,oB];simp only [on];rw [m,oB]
 ·have hn:t.l.length=0:=by rw [hn]; rfl
  have:=a3 (by simp only [Sl.nil,List.length_nil]; omega) i o H
  rwa [Nat.zero_add] at this
theorem UM {d:an}{q:aR}{N:Nat}(m:N<=1073741000) (p:vq (N+1) d) (hS:BJ d) (hd:fP d) (s:d.aA.l.length<=1048576) (hq:q.sz<=1048576) (j:q.bw.l.length+q.aL.l.length<=64) (hv:∀o∈q.bw.l,∀x∈o.fe.l,bX x.aM.av/\Wv (N+1) x.dZ)
  (kk:Sl Z9->Option Unit) (hk:∀l:Sl Z9,(l.l=[]->∀i o,q.bw.l[i]?=some o->aU d q i o)->kk l=some ()):r_ d q kk=some ():=by
 obtain⟨b,t,u⟩:=UL d q j;unfold r_;rw [UN,t,oB];by_cases hn:b.l=[]
 ·rw [show decide ((0:Int)<((b.l.length:Nat):Int))=false from dF (by rw [hn]; decide),cond_false];have own:=u hn;obtain⟨f,k⟩:=SJ (d:=d) (q:=q) s hq;rw [UO,k,oB];by_cases g:f.l=[]
  ·rw [show decide ((0:Int)<((f.l.length:Nat):Int))=false from dF (by rw [g]; decide),cond_false];obtain⟨nl,v⟩:=Sy hd q hq;rw [UP,v,oB];have hle:=J2 hd q hq;obtain⟨y,w,z⟩:=UH m p hS hq j hv;refine Uv hd hq (UI k g) _ fun r hr=>?_;have hc:(qC d q).length<=2199023255552:=by unfold qC; simp only [List.length_append]; omega
   rw [jL (by decide) (by show (qC d q).length+_<=_; omega),oB,UQ,w,oB,jL (by decide) (by simp only [List.length_append]; omega),oB];exact hk _ fun _=>own
  ·exact(show decide ((0:Int)<((f.l.length:Nat):Int))=true from dT (by have:=List.length_pos_iff.2 g; omega))▸hk f fun h=>(g h).elim
 ·exact(show decide ((0:Int)<((b.l.length:Nat):Int))=true from dT (by have:=List.length_pos_iff.2 hn; omega))▸hk b fun h=>(hn h).elim
theorem UR {d:an}(hw:d.wf) (b:d.sz<=1048576):∃x,ze d=some x:=by
 have p:=d.bH;have a2:=Sl.gQ (f:=ay.sz) d.aA ay.pos;have g:∀t∈d.aA.l,t.sz<=1048576:=fun t ht=>by have:=Sl.dh (f:=ay.sz) ht; omega
 have c1:=Ue b true;have c2:=Tu b;obtain⟨q,j⟩:=S3 (d:=d) g (by omega) true c1;obtain⟨r,k⟩:=Tj (d:=d) (by omega) (Uh hw b) (by unfold s9; omega);obtain⟨w,m,s⟩:=Ub hw b;unfold ze;rw [j,oB];cases hc:decide ((0:Int)<(((sW d true).length:Nat):Int))
 ·rw [cond_false,k,oB,jL (by decide) (by show (sW d true).length+(vk d).length<=_; omega),oB,m,oB,
   jL (by decide) (by simp only [List.length_append]; omega)]
  exact⟨_,rfl⟩
 ·exact⟨_,rfl⟩
theorem US {d:an}{q:aR}(j:d.sz<=1048576) (hq:q.sz<=1048576):∃b,zf d q=some b/\(b=true->q.bw.l.length+q.aL.l.length<=64):=by
 obtain⟨k,m⟩:=Ro d j;obtain⟨g,f⟩:=RC q hq;obtain⟨s,p⟩:=RJ q hq;unfold zf;rw [m,f,p,oB];have r:g=true->q.bw.l.length+q.aL.l.length<=64:=fun hx=>by
  subst hx;unfold uQ at f;obtain⟨n,hn,f⟩:=Option.bind_eq_some_iff.1 f;have hn:=Ik hn;cases hc:((decide (n<(1:Int)))||(decide ((64:Int)<n))) with
  | false =>
   simp only [Bool.or_eq_false_iff,decide_eq_false_iff_not] at hc;omega
  | true=>rw [hc] at f; cases f
 cases k with
 | false=>exact⟨false,rfl,fun e=>by cases e⟩
 | true =>
  cases g with
  | false=>exact⟨false,rfl,fun e=>by cases e⟩
  | true=>exact⟨_,rfl,fun _=>r rfl⟩
def yes (b:Bool):Option Unit:=bif b then some () else none
set_option maxRecDepth 100000 in
theorem Cm:xQ (fun b=>yes b)=some ():=by kernel_rfl
theorem Mc (q:aR) (a:Bs):∀(l:List bJ) (i n:Nat),(∀p∈l.take i,(p.aa==a)=false)->(∃o,l[i]?=some o/\(o.aa==a)=true)->rE a l n=Sum.inr (((n+i:Nat):Int),(0:Int))
 | [],i,n,_,⟨o,h,_⟩=>by simp at h
 | p::r,i,n,h,⟨o,h1,h2⟩=>by
  rw [rE];simp only [on];cases i with
  | zero =>
   obtain rfl:p=o:=by simpa using h1
   rw [h2]; rfl
  | succ i =>
   rw [h p (by simp),cond_false,Mc q a r i (n+1) (fun x hx=>h x (by simp [hx])) ⟨o,by simpa using h1,h2⟩]
   congr 3; omega
theorem UT {d:an}{q:aR}{i:Nat}{o:bJ}(b:q.bw.l[i]?=some o) (h:aU d q i o):zg q o.aa=((i:Int),(0:Int)):=by
 have aJ:i<q.bw.l.length:=(List.getElem?_eq_some_iff.1 b).1;unfold zg;by_cases hn:o.aa=[]
 ·have h1:=h.2.1 hn;rw [hn,show ((([]:Bs)==([]:Bs)))=true from rfl,cond_true,show decide (((q.bw.l.length:Nat):Int)=(1:Int))=true from dT (by omega),cond_true];rw [show i=0 by omega]; rfl
 ·rw [show (o.aa==([]:Bs))=false by simpa using hn,cond_false,Mc q o.aa q.bw.l i 0 (fun p f=>by simpa using h.1 hn p f) ⟨o,b,by simp⟩,Nat.zero_add];rfl
theorem UU {d:an}{q:aR}(g:d.wf) (m:q.wf) (hd:d.sz<=1048576) (hq:q.sz<=1048576):A2 d q (fun b=>yes b)=some ():=by
 obtain⟨p,r⟩:=UR g hd;obtain⟨s,t,u⟩:=US hd hq;unfold A2;rw [UW,r,oB,UX];cases z:decide ((0:Int)<((p.l.length:Nat):Int)) with
 | true=>exact Cm
 | false =>
  simp only [a_,Bool.not_false,if_true,t,oB,Bool.false_or];cases s with
  | false=>exact Cm
  | true =>
   have v:d.aA.l.length<=1048576:=by
    have h1:=d.bH;have h2:=Sl.gQ (f:=ay.sz) d.aA ay.pos;omega
   show r_ d q _=some ();refine UM (N:=1048575) (by omega) (TV g hd) (TU g hd) (RU hd g) v hq (u rfl) (TW m hq) _ fun l hl=>?_;by_cases hn:l.l=[]
   ·have own:=hl hn;rw [show decide ((0:Int)<((l.l.length:Nat):Int))=false from dF (by rw [hn]; decide)];have loop:∀(f i:Nat),q.bw.l.length<i+f->i<=q.bw.l.length->uN d q (fun b=>yes b) f i=some ():=by
     intro f;induction f with
     | zero=>intro i h1 h2; omega
     | succ f w =>
      intro i h1 h2;rw [uN];by_cases aJ:i<q.bw.l.length
      ·have j:=List.getElem?_eq_getElem aJ;have hO:=own i _ j;rw [show decide (((i:Nat):Int)<((q.bw.l.length:Nat):Int))=true from dT (by omega),cond_true,j,oB,UY,oB,UT j hO,oB,QW,oB,Jl,oB];have y:(fH d (AY q.bw.l[i].aj)).2=true:=by
        have k:=hO.2.2;rw [yd] at k;rw [nc]; exact k
       rw [y];simp only [decide_true,Bool.not_true,Bool.or_self,cond_false];exact w (i+1) (by omega) (by omega)
      ·rw [show decide (((i:Nat):Int)<((q.bw.l.length:Nat):Int))=false from dF (by omega),cond_false];exact Cm
    exact loop _ 0 (by omega) (by omega)
   ·rw [show decide ((0:Int)<((l.l.length:Nat):Int))=true from dT (by have:=List.length_pos_iff.2 hn; omega)];exact Cm
end Go.Proofs
namespace Go.Proofs.YtbbkbkhdciklaaaGreatDoor
open Go Go.Ab Go.RowKit Go.ChangeShapes Go.WideShapes Go.ChangeAt
variable {ak:bP}
theorem Md {H:Type}(l:List (DataW H)):Rows.uptoBulkAll l=(l.map Rows.uptoBulk).sum:=by
 induction l with
 | nil=>rfl
 | cons x r b=>simp only [Rows.uptoBulkAll,List.map_cons,List.sum_cons,b]
theorem Me {H:Type}:xA (H:=H) Rows.uptoBulk:=by
 refine⟨fun d=>?_,fun b=>by simp [Rows.uptoBulk],fun e s=>by simp only [Rows.uptoBulk,Md]; omega,fun l=>by simp only [Rows.uptoBulk,Md]; omega⟩;cases d with
 | lit l=>cases l<;>simp [Rows.uptoBulk]
 | nil=>simp [Rows.uptoBulk]
 | ptr d=>simp [Rows.uptoBulk]
 | slice f spare=>simp [Rows.uptoBulk]
 | agg parts=>simp [Rows.uptoBulk]
 | iface t d=>simp [Rows.uptoBulk]
 | map entries=>simp [Rows.uptoBulk]
 | held h=>simp [Rows.uptoBulk]
theorem own:ownKnob Tryz.prog.godebug=none:=by kernel_rfl
theorem laid:laidOutB Tryz.prog=true:=by kernel_rfl
theorem UZ {H:Type}{l:List (DataW H)}(hk:Rows.uptoSmall H l=true):Rows.uptoBulkAll l<=1048576:=oD hk
theorem table {W:World}(h:laidMet Tryz.prog Rows.validateWholeUptoRow.laid W):∃u fr,W.heap[0]?=some (.cells (Lib.pow10Tab.map fun z=>Value.int .u64 z).toArray u fr) :=
 PX (P:=Tryz.prog) (name := "internal/strconv.uint64pow10") (g:=0) (t:=271) (e:=262) (n:=20) (by kernel_rfl) (by kernel_rfl) (by kernel_rfl) (by kernel_rfl) (by kernel_rfl) (by kernel_rfl) h
  (by rw [show (Lib.tabData .u64 Lib.pow10Tab:DataW Unit)=Rows.laid_internal_strconv_uint64pow10 from(by kernel_rfl)]; exact .tail _ (.tail _ (.head _)))
theorem U0 (u:TypeId) (fr:Nat×Nat):gz Tryz.prog (.fix 0 (.cells (Lib.pow10Tab.map fun z=>Value.int .u64 z).toArray u fr)):=.of (by kernel_rfl)
theorem U3 (a:an) (b:aR) (f:a.sz<=1048576) (g:a.wf) (j:b.sz<=1048576) (k:b.wf) (u:TypeId) (fr:Nat×Nat):At 3 [.agg a.c,.agg b.c] (fK 0 (.cells (Lib.pow10Tab.map fun z=>Value.int .u64 z).toArray u fr)) fun r h'=>r=.a (.d (.bool true))/\h'=fK 0 (.cells (Lib.pow10Tab.map fun z=>Value.int .u64 z).toArray u fr) :=
 (QY (kk:=fun b=>yes b) (UU g k f j) _ (gT:=0) rfl (U0 u fr)).mono fun r h' h=>by
  obtain⟨⟨x,⟨l,rfl,hk⟩,rfl⟩,hh⟩:=h;cases l with
  | false=>cases hk
  | true=>exact⟨rfl,hh⟩
end Go.Proofs.YtbbkbkhdciklaaaGreatDoor
