import Derived.Test.YtgkmefkmmafocaaGreatDoorV7
import Derived.Test.YtgkmefkmmafocaaGreatDoorRows
set_option maxRecDepth 100000
set_option maxHeartbeats 2000000
set_option linter.unusedVariables false
set_option linter.unusedSimpArgs false
namespace Go.Proofs
open Go Go.Ab
theorem zY {d:aj}{n:Bs}(h:Rd d n):fF (cc d) n=fF d n:=by
 unfold fF q_;simp only [Ab.on,h_,iV h];rfl
theorem Fe {d:aj}{n:Bs}(h:Rd d n) (a:Bs) (k:Int):g_ (cc d) n a k=g_ d n a k:=by
 unfold g_;rw [iV h,zY h]; rfl
theorem zZ {d:aj}(a b:Bs):∀(l:List Z8) (s:List Bs),(∀x∈l,Rd d x.aA.aa)->fH (cc d) a b s (l.map bV)=fH d a b s l
 | [],_,_=>rfl
 | x::l,s,h=>by
  rw [List.map_cons,fH,fH,show (bV x).aa=x.aa from rfl,show (bV x).aA=x.aA from rfl,Fe (h x (.head _)),zZ a b l _ fun y f=>h y (.tail _ f)]
theorem Ff {d:aj}(b:Bs):∀(l:List Z7) (s:List Bs),(∀y∈dr l,Rd d y)->iQ (cc d) b s (l.map cK)=iQ d b s l
 | [],_,_=>rfl
 | x::l,s,h=>by
  have g:dr (x::l)=x.aA.aa::(x.aF.l.map (fun a=>a.aA.aa)++dr l):=by simp [dr]
  rw [g] at h;rw [List.map_cons,iQ,iQ,show (cK x).aa=x.aa from rfl,show (cK x).aA=x.aA from rfl,show (cK x).aF.l=x.aF.l.map bV from rfl,Fe (h _ (.head _)),
   zZ _ _ x.aF.l _ fun y f=>h _ (.tail _ (List.mem_append.2 (.inl (List.mem_map.2 ⟨y,f,rfl⟩)))),Ff b l _ fun y f=>h y (.tail _ (List.mem_append.2 (.inr f)))]
theorem Fg (b:Bs):∀(l:List Z9) (s:List Bs),hG b s (l.map eM)=hG b s l
 | [],_=>rfl
 | x::l,s=>by rw [List.map_cons,hG,hG,show (eM x).aa=x.aa from rfl,Fg b l]
theorem Nd {d:aj}{t:ai}(h:aX d.an.l t.aa=(t,true)):sc d t.aa=gz d t t.aa:=by unfold sc; rw [h]
theorem Nf {d:aj}{t:ai}(h:aX d.an.l t.aa=(t,true)):dx d t.aa=true:=by unfold dx; rw [h]
structure Kd (d:aj) (t:ai):Prop where
 f:∀y∈dr t.ay.l,Rd d y
 i:∀x∈t.aM.l,Rd d x.aA.aa
 m:t.ar=3->∀x∈t.aJ.l,Rd d x.aa
 p:∀y∈t.aW.l,Rd d y
 o:t.ar=2->∀x∈d.an.l,x.aW.l.contains t.aa=true->Rd d x.aa
theorem sr {d:aj}{t:ai}(h:aX d.an.l t.aa=(t,true)) (hr:Rd d t.aa):Kd d t:=by
 have st:∀y∈gz d t t.aa,Rd d y:=fun y b=>hr.step (Nf h) (by rw [Nd h]; exact b);unfold gz at st;refine⟨fun y b=>st y (List.mem_append.2 (.inl b)),fun x hx=>st _ (List.mem_append.2 (.inr (List.mem_append.2 (.inl (List.mem_map.2 ⟨x,hx,rfl⟩))))),fun hk x hx=>?_,fun y b=>?_,fun hk x hx hc=>?_⟩
 ·refine st _ (List.mem_append.2 (.inr (List.mem_append.2 (.inr (List.mem_append.2 (.inl ?_))))));rw [if_pos hk]; exact List.mem_map.2 ⟨x,hx,rfl⟩
 ·exact st _ (List.mem_append.2 (.inr (List.mem_append.2 (.inr (List.mem_append.2 (.inr (List.mem_append.2 (.inl b))))))))
 ·refine st _ (List.mem_append.2 (.inr (List.mem_append.2 (.inr (List.mem_append.2 (.inr (List.mem_append.2 (.inr ?_))))))));rw [if_pos hk]; exact List.mem_map.2 ⟨x,List.mem_filter.2 ⟨hx,hc⟩,rfl⟩
theorem Ng {d:aj}{t:ai}(h:Kd d t):j9 (cc d) (bD t)=j9 d t:=by
 unfold j9;rw [show (bD t).ar=t.ar from rfl,show (bD t).aa=t.aa from rfl,show (bD t).ay.l=t.ay.l.map cK from rfl,show (bD t).aJ.l=t.aJ.l.map eM from rfl,show (bD t).aM.l=t.aM.l.map bV from rfl,
  Ff _ _ _ h.f,Fg,zZ _ _ _ _ h.i]
theorem Fh {d:aj}{own:Bs}{x:Z8}(h:Rd d x.aA.aa):gd (cc d) own (bV x)=gd d own x:=by
 unfold gd;rw [show (bV x).aA=x.aA from rfl,iV h]; rfl
theorem Nh {d:aj}{n:Bs}(h:Rd d n):gx (cc d) n=(gx d n).map bV:=by unfold gx; rw [iV h]; rfl
theorem Ni {d:aj}{n:Bs}(h:Rd d n):∀x∈gx d n,Rd d x.aA.aa:=fun x hx=>by
 cases b:dx d n
 ·unfold gx at hx;rw [qF b] at hx;cases hx
 ·refine h.step b ?_;unfold sc gz;exact List.mem_append.2 (.inr (List.mem_append.2 (.inl (List.mem_map.2 ⟨x,hx,rfl⟩))))
theorem Nj {d:aj}{own:Bs}{l:List Z8}(hl:∀x∈l,Rd d x.aA.aa){n:Bs}(h:iP (cc d) own (l.map bV) n):iP d own l n/\Rd d n:=by
 induction h with
 | here hx hg =>
  obtain⟨x,b,rfl⟩:=List.mem_map.1 hx;rw [Fh (hl x b)] at hg;exact⟨iP.here (x:=x) b hg,hl x b⟩
 | step _ hx hg g =>
  obtain⟨i,f⟩:=g;rw [Nh f] at hx;obtain⟨x,b,rfl⟩:=List.mem_map.1 hx;have hr:=Ni f x b;rw [Fh hr] at hg;exact⟨iP.step (x:=x) i b hg,hr⟩
theorem Nk {d:aj}{t:ai}(h:Kd d t) (hc:gZ d t=false):gZ (cc d) (bD t)=false:=by
 unfold gZ at hc ⊢;rw [decide_eq_false_iff_not] at hc ⊢;exact fun hr=>hc (Nj h.i hr).1
theorem z6 {b:Bool}{e:Int}{a:Bs}:bI b e a=[]↔b=false:=by unfold bI; cases b<;>simp
theorem Nl {d:aj}{t:ai}(hk:Kd d t){s s':List Bs}(i:∀x∈s',x∈s) (h:jH d s t=[]):jH (cc d) s' (bD t)=[]:=by
 unfold jH at h ⊢;simp only [List.append_eq_nil_iff,z6] at h ⊢;obtain⟨⟨h1,b⟩,j,k,f⟩:=h;refine⟨⟨h1, ?_⟩, ?_,k, ?_⟩
 ·rw [Bool.or_eq_false_iff] at b ⊢;refine⟨?_,b.2⟩;have g:=b.1;simp only [List.contains_eq_mem,decide_eq_false_iff_not] at g ⊢;exact fun hx=>g (i _ hx)
 ·rw [<- j];unfold qD;rw [show (bD t).ar=t.ar from rfl,show (bD t).ay.l=t.ay.l.map cK from rfl,show (bD t).aJ.l=t.aJ.l.map eM from rfl,show (bD t).aM.l=t.aM.l.map bV from rfl,List.length_map,List.length_map,List.length_map]
 ·rw [show (bD t).ar=t.ar from rfl];cases hc:gZ d t
  ·rw [Nk hk hc,Bool.and_false]
  ·rw [hc,Bool.and_true] at f; rw [f,Bool.false_and]
theorem z_ {d:aj}(b:∀t∈d.an.l,Rd d t.aa->Kd d t):∀(l:List ai) (s s':List Bs),(∀t∈l,t∈d.an.l)->(∀x∈s',x∈s)->fW d s l=[]->fW (cc d) s' ((l.filter fun t=>kg d t.aa).map bD)=[]
 | [],_,_,_,_,_=>rfl
 | t::r,s,s',hm,f,h=>by
  rw [fW] at h;simp only [List.append_eq_nil_iff] at h;obtain⟨h1,j,i⟩:=h;rw [List.filter_cons]
  split
  ·rename_i hq
   have hk:=b t (hm t (.head _)) (nc.1 hq);rw [List.map_cons,fW,Nl hk f h1,Ng hk,j];simp only [List.nil_append];refine z_ b r (s++[t.aa]) _ (fun y g=>hm y (.tail _ g)) (fun x hx=>?_) i;rcases List.mem_append.1 hx with hx|hx
   ·exact List.mem_append.2 (.inl (f x hx))
   ·exact List.mem_append.2 (.inr hx)
  ·exact z_ b r (s++[t.aa]) s' (fun y g=>hm y (.tail _ g)) (fun x hx=>List.mem_append.2 (.inl (f x hx))) i
theorem Fi {d:aj}:∀(l:List ai) (s:List Bs),fW d s l=[]->∀t∈l,t.aa∉s/\aX l t.aa=(t,true)
 | [],_,_,_,h=>(by cases h)
 | a::r,s,h,t,ht=>by
  rw [fW] at h;simp only [List.append_eq_nil_iff] at h;obtain⟨h1,_,f⟩:=h;unfold jH at h1;simp only [List.append_eq_nil_iff,z6] at h1;have g:=(Bool.or_eq_false_iff.1 h1.1.2).1;rcases List.mem_cons.1 ht with rfl|ht
  ·exact⟨by simpa using g,by rw [sq,if_pos rfl]⟩
  ·obtain⟨i,j⟩:=Fi r _ f t ht;have b:t.aa∉s/\t.aa≠a.aa:=by simpa using i
   exact⟨b.1,by rw [sq,if_neg (fun e=>b.2 e.symm)]; exact j⟩
theorem Nn {d:aj}(h:fZ d true=[]):fZ (cc d) true=[]/\∀t∈d.an.l,aX d.an.l t.aa=(t,true):=by
 unfold fZ at h ⊢;simp only [List.append_eq_nil_iff,z6] at h ⊢;obtain⟨h1,f⟩:=h;have b:∀t∈d.an.l,aX d.an.l t.aa=(t,true):=fun t ht=>(Fi d.an.l [] h1 t ht).2;refine⟨⟨z_ (fun t ht hr=>sr (b t ht) hr) d.an.l [] [] (fun _ h=>h) (fun _ h=>h) h1, ?_⟩,b⟩;rw [iV ⟨_,by unfold iU; exact .head _,.refl _⟩];exact f
def lM (a b:aG):Bool:=a.aa==b.aa&&decide (a.aK.l=b.aK.l)
theorem No (a b:aG):lM a b=lM b a:=by
 unfold lM;rw [Bool.eq_iff_iff];simp only [Bool.and_eq_true,beq_iff_eq,decide_eq_true_eq];exact⟨fun h=>⟨h.1.symm,h.2.symm⟩,fun h=>⟨h.1.symm,h.2.symm⟩⟩
theorem Fj (a:Sl Int) (b:Sl Int):∀(l:List Int) (s:Nat),l.length+s=b.l.length->jq b l s=some (if l=b.l.drop s then Sum.inl () else Sum.inr false)
 | [],s,h=>by
  rw [jq,List.drop_of_length_le (by simp at h; omega)]; rfl
 | x::l,s,h=>by
  have f:s<b.l.length:=by simp at h; omega
  rw [jq];simp only [Ab.on];rw [List.getElem?_eq_getElem f,oB,List.drop_eq_getElem_cons f];by_cases e:x=b.l[s]
  ·rw [dT e,Bool.not_true,cond_false,Fj a b l (s+1) (by simp at h; omega),e];by_cases hh:l=b.l.drop (s+1)
   ·rw [if_pos hh,if_pos (by rw [hh])]
   ·rw [if_neg hh,if_neg (fun h=>hh (List.cons.inj h).2)]
  ·rw [dF e,Bool.not_false,cond_true,if_neg (fun h=>e (List.cons.inj h).1)]
theorem Np (a b:aG):jV a b=some (lM b a):=by
 rw [No];have e:nQ a.aK b.aK=some (decide (a.aK.l=b.aK.l)):=by
  unfold nQ;by_cases h:a.aK.l.length=b.aK.l.length
  ·rw [dT (by omega),Bool.not_true,cond_false,Fj a.aK b.aK a.aK.l 0 (by omega),List.drop_zero];by_cases f:a.aK.l=b.aK.l
   ·rw [if_pos f,dT f]; rfl
   ·rw [if_neg f,dF f]; rfl
  ·rw [dF (by omega),Bool.not_false,cond_true,dF (fun e=>h (by rw [e]))]
 unfold jV lM;rw [e];cases a.aa==b.aa<;>rfl
theorem su {d e:aj}(f:d.an.l.length<=1048576) (he:e.an.l.length<=1048576):∀(m:Nat) (a b:aG),a.aK.l.length<=1048576->b.aK.l.length<=1048576->iS e b.aa a.aa=iS d b.aa a.aa->a.aK.l.length+b.aK.l.length<m ->
  ∃v,iE m d a b=some v/\iE m e a b=some v
 | 0,_,_,_,_,_,h=>by omega
 | m+1,a,b,o,i,g,hm=>by
  rw [iE,iE];simp only [Ab.on,zx,uX o,uX i,zy o,zy i,oB];have t:=uY a.aK;have u:=uY b.aK;cases r:fA b.aK.l
  ·simp only [cond_false];cases j:fA a.aK.l
   ·simp only [cond_false];have last:∃v,(aU (!((a.aa==b.aa))) (mb d a.aa b.aa) false fun k=>some (((a.aa==b.aa))||k))=some v/\(aU (!((a.aa==b.aa))) (mb e a.aa b.aa) false fun k=>some (((a.aa==b.aa))||k))=some v:=by
     rw [D6 f,D6 he,g];cases (a.aa==b.aa)<;>exact⟨_,rfl,rfl⟩
    cases s:jG (cF a.aK).l
    ·cases p:jG (cF b.aK).l
     ·exact last
     ·exact⟨_,rfl,rfl⟩
    ·cases p:jG (cF b.aK).l
     ·exact⟨_,rfl,rfl⟩
     ·have h1:=DN s;have q:=DN p;have w:((cF a.aK).l.drop 1).length<a.aK.l.length:=h1;have x:((cF b.aK).l.drop 1).length<b.aK.l.length:=q;obtain⟨v,hv,hw⟩:=su f he m ⟨a.aa,⟨false,(cF a.aK).l.drop 1⟩⟩ ⟨b.aa,⟨false,(cF b.aK).l.drop 1⟩⟩ (by show ((cF a.aK).l.drop 1).length<=_; omega) (by show ((cF b.aK).l.drop 1).length<=_; omega) g (by show ((cF a.aK).l.drop 1).length+((cF b.aK).l.drop 1).length<m; omega)
      simp only [cond_true,Bool.or_self,Bool.and_self,aU,if_true,hv,hw,oB];exact⟨_,rfl,rfl⟩
   ·have h1:(cF a.aK).l.length<a.aK.l.length:=zz j;obtain⟨v,hv,hw⟩:=su f he m ⟨a.aa,⟨false,(cF a.aK).l⟩⟩ b (by show (cF a.aK).l.length<=_; omega) i g (by show (cF a.aK).l.length+b.aK.l.length<m; omega);simp only [cond_true,hv,hw];exact⟨_,rfl,rfl⟩
  ·simp only [cond_true];cases j:fA a.aK.l
   ·exact⟨_,rfl,rfl⟩
   ·have h1:(cF a.aK).l.length<a.aK.l.length:=zz j;have q:(cF b.aK).l.length<b.aK.l.length:=zz r;obtain⟨v,hv,hw⟩:=su f he m ⟨a.aa,⟨false,(cF a.aK).l⟩⟩ ⟨b.aa,⟨false,(cF b.aK).l⟩⟩ (by show (cF a.aK).l.length<=_; omega) (by show (cF b.aK).l.length<=_; omega) g (by show (cF a.aK).l.length+(cF b.aK).l.length<m; omega);simp only [aU,if_true,hv,hw,oB]
    exact⟨_,rfl,rfl⟩
def iW (d:aj) (a b:aG):Bool:=(pO d a b).getD false
theorem Nq {d:aj}(f:d.an.l.length<=1048576){a b:aG}(g:gU a.aK) (hb:gU b.aK):pO d a b=some (iW d a b):=by
 have h1:=g.2; have i:=hb.2;obtain⟨v,hv,hw⟩:=su f f F0 a b g.2 hb.2 rfl (by rw [fe]; omega);have e:iW d a b=v:=by unfold iW pO; rw [hv]; rfl
 rw [e]; exact hv
theorem Nr {d e:aj}(g:d.an.l.length<=1048576) (he:e.an.l.length<=1048576){a b:aG}(f:gU a.aK) (hb:gU b.aK) (i:iS e b.aa a.aa=iS d b.aa a.aa):iW e a b=iW d a b:=by
 have h1:=f.2; have j:=hb.2;obtain⟨v,hv,hw⟩:=su g he F0 a b f.2 hb.2 i (by rw [fe]; omega);unfold iW pO; rw [hv,hw]
def eX (d:aj) (n:Bs) (k:Int):Int:=bif !(aX d.an.l n).2&&!dh n then 8 else bif !(aX d.an.l n).2||!decide ((aX d.an.l n).1.ar=k) then 9 else 0
def ni (p n:Bs) (b:Bool):List Z6:=bI b 22 (p++[40]++n++[41])
def lN (p:Bs) (y:Z7) (l:List Z8):List Z6:=l.flatMap fun a=>ni p a.aa (!(dX y.aF.l a.aa).2||!lM a.aA (dX y.aF.l a.aa).1.aA)
def nj (p:Bs) (x:Z7) (l:List Z8):List Z6:=l.flatMap fun b=>ni p b.aa ((!(dX x.aF.l b.aa).2&&fA b.aA.aK.l)&&!b.cT)
def ko (d:aj) (t:ai) (x:Z7):List Z6 :=
 bif !(dM t.ay.l x.aa).2 then [Z6.mk 20 (t.aa++[46]++x.aa)] else
  (bI (!iW d (dM t.ay.l x.aa).1.aA x.aA) 10 (t.aa++[46]++x.aa)++(lN (t.aa++[46]++x.aa) (dM t.ay.l x.aa).1 x.aF.l++nj (t.aa++[46]++x.aa) x (dM t.ay.l x.aa).1.aF.l))
def lP (d:aj) (t:ai) (l:List Z7):List Z6:=l.flatMap (ko d t)
def fB (d:aj) (s:List Bs) (n:Bs) (k:Int):Int:=bif decide (eX d n k=0)&&s.contains n then 7 else eX d n k
def jK (d:aj) (t:ai):List Bs->List Bs->List Z6
 | _,[]=>[]
 | s,n::r=>(bif !decide (fB d s n 2=0) then [Z6.mk (fB d s n 2) t.aa] else lP d t (aX d.an.l n).1.ay.l)++jK d t (s++[n]) r
def kr (d:aj) (t:ai):List Bs->List Z9->List Z6
 | _,[]=>[]
 | s,m::r=>bI (!decide (fB d s m.aa 1=0)) (fB d s m.aa 1) (t.aa++[46]++m.aa)++kr d t (s++[m.aa]) r
def nk (d:aj) (t:ai):List Z6:=bif decide (t.ar=1) then jK d t [] t.aW.l else bif decide (t.ar=3) then kr d t [] t.aJ.l else []
def lQ (d:aj):List Z6:=d.an.l.flatMap (nk d)
def nq:Nat:=4000000000000
theorem Fk {s r:Sl Z6}(h:s.l.length+r.l.length<=nq):aQ 24 s r=some ⟨s.nl&&r.l.isEmpty,s.l++r.l⟩:=by
 unfold nq at h;unfold aQ; rw [if_pos]; unfold cq; omega
theorem Fl (l:List Z7) (s:Bs):(dM l s).1=Z7.zero\/(dM l s).1∈l:=by
 unfold dM;cases h:l.find? (fun t=>t.aa==s) with
 | none=>exact .inl rfl
 | some t=>exact .inr (List.mem_of_find?_eq_some h)
def nr (f:Z7):Prop:=f.aa.length<=1048576/\(∀a∈f.aF.l,a.aa.length<=1048576)/\gU f.aA.aK
theorem Ns:nr Z7.zero:=⟨Nat.zero_le _,fun _ h=>(by cases h),⟨fun _=>rfl,Nat.zero_le _⟩⟩
theorem Nt {l:List Z7}(h:∀f∈l,nr f) (s:Bs):nr (dM l s).1:=by
 rcases Fl l s with e|e
 ·rw [e]; exact Ns
 ·exact h _ e
def lR (t:ai):Prop:=t.aa.length<=1048576/\(∀f∈t.ay.l,nr f)/\∀m∈t.aJ.l,m.aa.length<=1048576
theorem Nu:lR ai.zero:=⟨Nat.zero_le _,fun _ h=>(by cases h),fun _ h=>(by cases h)⟩
theorem Nv {d:aj}(h:∀t∈d.an.l,lR t) (s:Bs):lR (aX d.an.l s).1:=by
 rcases zo d.an.l s with e|e
 ·rw [e]; exact Nu
 ·exact h _ e
theorem Nw (s:Bs) (l:List Z8):jk s l=(match l.find? (fun t=>t.aa==s) with|some t=>Sum.inr (t,true)|none=>Sum.inl ()):=by
 induction l with
 | nil=>rfl
 | cons a r b =>
  rw [jk,List.find?_cons];simp only [on,b];cases a.aa==s<;>rfl
theorem u_ (t:Sl Z8) (s:Bs):fQ t s=dX t.l s:=by
 unfold fQ dX on;rw [Nw];cases t.l.find? (fun t=>t.aa==s)<;>rfl
theorem Nx (s:Bs) (l:List Z7):jm s l=(match l.find? (fun t=>t.aa==s) with|some t=>Sum.inr (t,true)|none=>Sum.inl ()):=by
 induction l with
 | nil=>rfl
 | cons a r b =>
  rw [jm,List.find?_cons];simp only [on,b];cases a.aa==s<;>rfl
theorem Ny (t:ai) (s:Bs):kJ t s=dM t.ay.l s:=by
 unfold kJ dM on;rw [Nx];cases t.ay.l.find? (fun t=>t.aa==s)<;>rfl
def RF (o:Option (Sl Z6)) (s:Sl Z6) (X:List Z6):Prop:=s.l.length+X.length<=nq->∃nl,o=some ⟨nl,s.l++X⟩
theorem RF.pure (s:Sl Z6):RF (some s) s []:=fun _=>⟨s.nl,by simp⟩
theorem RF.bind {o:Option (Sl Z6)}{f:Sl Z6->Option (Sl Z6)}{s:Sl Z6}{X Y:List Z6}(h:RF o s X) (g:∀b,RF (f b) b Y):RF (o.bind f) s (X++Y):=fun hb=>by
 simp only [List.length_append] at hb;obtain⟨i,j⟩:=h (by omega);obtain⟨k,m⟩:=g ⟨i,s.l++X⟩ (by simp only [List.length_append]; omega);exact⟨k,by rw [j,oB,m]; simp only [List.append_assoc]⟩
theorem RF.id {o:Option (Sl Z6)}{s:Sl Z6}{X:List Z6}(h:RF o s X):RF (o.bind fun x=>some x) s X:=fun hb=>by
 obtain⟨b,f⟩:=h hb; exact⟨b,by rw [f]; rfl⟩
theorem va (s:Sl Z6) (e:Int) (at_:Bs):RF (aQ 24 s (⟨false,[Z6.mk e at_]⟩:Sl Z6)) s [Z6.mk e at_]:=fun hb=>⟨_,Fk (by simpa using hb)⟩
theorem Aa (s:Sl Z6){o:Option (Sl Z6)}{X:List Z6}(h:X.length<=nq->∃nl,o=some ⟨nl,X⟩):RF (o.bind fun x=>aQ 24 s x) s X:=fun hb=>by
 obtain⟨f,b⟩:=h (by omega);rw [b,oB,Fk (by simpa using hb)];exact⟨_,rfl⟩
theorem Fm {p n:Bs}(k:p.length<=10000000) (hn:n.length<=1048576) (s:Sl Z6) (b:Bool):RF (bif b then((cr p ([40]:Bs)).bind fun f=>(cr f n).bind fun g=>(cr g ([41]:Bs)).bind fun i=>(aQ 24 s (⟨false,[(Z6.mk (22:Int) i)]⟩:Sl Z6)).bind fun j=>some j) else(some s)) s (ni p n b):=by
 cases b
 ·exact RF.pure s
 ·rw [cond_true,eS (by simp; omega),oB,eS (by simp; omega),oB,eS (by simp; omega),oB];exact(va s 22 _).id
theorem Fo {p:Bs}(b:p.length<=10000000) (y:Z7×Bool):∀(l:List Z8) (s:Sl Z6),(∀a∈l,a.aa.length<=1048576)->RF (iF p y l s) s (lN p y.1 l)
 | [],s,_=>by rw [iF]; exact .pure s
 | a::r,s,h=>by
  rw [iF];simp only [on,u_,Np];have e:lN p y.1 (a::r)=ni p a.aa (!(dX y.1.aF.l a.aa).2||!lM a.aA (dX y.1.aF.l a.aa).1.aA)++lN p y.1 r:=rfl;rw [e];have key:∀v:Bool,(!(dX y.1.aF.l a.aa).2||!v)=(!(dX y.1.aF.l a.aa).2||!lM a.aA (dX y.1.aF.l a.aa).1.aA)->RF (Option.bind (bif ((!(dX y.1.aF.l a.aa).2)||(!v)) then((cr p ([40]:Bs)).bind fun f=>(cr f a.aa).bind fun g=>(cr g ([41]:Bs)).bind fun i=>(aQ 24 s (⟨false,[(Z6.mk (22:Int) i)]⟩:Sl Z6)).bind fun j=>some j) else(some s)) fun k=>iF p y r k) s (ni p a.aa (!(dX y.1.aF.l a.aa).2||!lM a.aA (dX y.1.aF.l a.aa).1.aA)++lN p y.1 r):=by
   intro v hv;rw [hv];exact RF.bind (Fm b (h a (.head _)) s _) fun m=>Fo b y r m fun x hx=>h x (.tail _ hx)
  cases hk:(dX y.1.aF.l a.aa).2
  ·rw [hk] at key;exact key false rfl
  ·rw [hk] at key;exact key _ rfl
theorem Fp (x:Z7){p:Bs}(b:p.length<=10000000):∀(l:List Z8) (s:Sl Z6),(∀a∈l,a.aa.length<=1048576)->RF (iG x p l s) s (nj p x l)
 | [],s,_=>by rw [iG]; exact .pure s
 | a::r,s,h=>by
  rw [iG];simp only [on,u_,zx];have e:nj p x (a::r)=ni p a.aa ((!(dX x.aF.l a.aa).2&&fA a.aA.aK.l)&&!a.cT)++nj p x r:=rfl;have f:(((!(dX x.aF.l a.aa).2)&&(bif (!(dX x.aF.l a.aa).2) then fA (bif (!(dX x.aF.l a.aa).2) then a else Z8.zero).aA.aK.l else false))&&(!(bif ((!(dX x.aF.l a.aa).2)&&(bif (!(dX x.aF.l a.aa).2) then fA (bif (!(dX x.aF.l a.aa).2) then a else Z8.zero).aA.aK.l else false)) then a else Z8.zero).cT))=((!(dX x.aF.l a.aa).2&&fA a.aA.aK.l)&&!a.cT):=by
   cases (dX x.aF.l a.aa).2
   ·simp only [Bool.not_false,Bool.true_and,cond_true];cases fA a.aA.aK.l<;>rfl
   ·rfl
  rw [e,f];exact RF.bind (Fm b (h a (.head _)) s _) fun g=>Fp x b r g fun x hx=>h x (.tail _ hx)
theorem NA {d:aj}(b:d.an.l.length<=1048576){t:ai}(ht:t.aa.length<=1048576) (g:∀f∈t.ay.l,nr f){x:Z7}(hx:nr x) (hb:(ko d t x).length<=nq):∃nl,kP d t x=some ⟨nl,ko d t x⟩:=by
 obtain⟨r,i,j⟩:=hx;obtain⟨s,k,m⟩:=Nt g x.aa;unfold kP;simp only [on,Ny];rw [eS (by simp; omega),oB,eS (by simp; omega),oB]
 revert hb
 unfold ko;cases (dM t.ay.l x.aa).2
 ·exact fun _=>⟨false,rfl⟩
 ·simp only [Bool.not_true,cond_false];intro hb;rw [(Nq b m j),oB];have h1:RF (bif (!iW d (dM t.ay.l x.aa).1.aA x.aA) then((aQ 24 (Sl.nil:Sl Z6) (⟨false,[(Z6.mk (10:Int) (t.aa++[46]++x.aa))]⟩:Sl Z6)).bind fun o=>some o) else(some (Sl.nil:Sl Z6))) (Sl.nil:Sl Z6) (bI (!iW d (dM t.ay.l x.aa).1.aA x.aA) 10 (t.aa++[46]++x.aa)):=by
   cases iW d (dM t.ay.l x.aa).1.aA x.aA
   ·exact(va _ 10 _).id
   ·exact .pure _
  exact RF.bind h1 (fun p=>RF.bind (Fo (by simp; omega) _ _ p i) fun q=>(Fp x (by simp; omega) _ q k).id) (by show 0+_<=_; omega)
theorem Fq {d:aj}(i:d.an.l.length<=1048576){t:ai}(ht:t.aa.length<=1048576) (j:∀f∈t.ay.l,nr f):∀(l:List Z7) (s:Sl Z6),(∀f∈l,nr f)->RF (iH d t l s) s (lP d t l)
 | [],s,_=>by rw [iH]; exact .pure s
 | x::r,s,h=>by
  rw [iH];simp only [on];have e:lP d t (x::r)=ko d t x++lP d t r:=rfl;have k:((kP d t x).bind fun b=>(aQ 24 s b).bind fun g=>iH d t r g)=((kP d t x).bind fun b=>aQ 24 s b).bind fun g=>iH d t r g:=by
   cases kP d t x<;>rfl
  rw [e,k];exact RF.bind (Aa s (NA i ht j (h x (.head _)))) fun m=>Fq i ht j r m fun f o=>h f (.tail _ o)
theorem Fs (d:aj) (n:Bs) (k:Int) (hk:k≠0):nP d n k=eX d n k:=by
 unfold nP eX;simp only [on,h_];cases b:(aX d.an.l n).2
 ·rw [qF b];have:decide (ai.zero.ar=k)=false:=dF fun e=>hk e.symm;rw [this];cases dh n<;>rfl
 ·cases dh n<;>rfl
theorem Ft {d:aj}(b:d.an.l.length<=1048576) (hk:∀t∈d.an.l,lR t){t:ai}(ht:lR t):∀(l:List Bs) (i:Nat) (s:Sl Z6),t.aW.l.drop i=l->RF (jr d t l i s) s (jK d t (t.aW.l.take i) l)
 | [],i,s,_=>by rw [jr]; exact .pure s
 | n::r,i,s,f=>by
  rw [jr,jK];simp only [on,Fs d n 2 (by decide),zA,h_];have e:(bif ((decide (eX d n 2=(0:Int)))&&(bif (decide (eX d n 2=(0:Int))) then(bif (decide (eX d n 2=(0:Int))) then(⟨t.aW.nl,t.aW.l.take i⟩:Sl Bs) else(Sl.nil:Sl Bs)).l.contains (bif (decide (eX d n 2=(0:Int))) then n else([]:Bs)) else false)) then((7:Int)) else(eX d n 2))=fB d (t.aW.l.take i) n 2:=by
   unfold fB;cases decide (eX d n 2=(0:Int))<;>rfl
  rw [e,<- qH f];refine RF.bind ?_ fun g=>Ft b hk ht r (i+1) g (mW f).1;cases decide (fB d (t.aW.l.take i) n 2=0)
  ·exact(va s _ _).id
  ·simp only [Bool.not_true,cond_false];exact(Fq b ht.1 ht.2.1 _ s (Nv hk n).2.1).id
theorem Fu {d:aj}{t:ai}(ht:lR t):∀(l:List Z9) (i:Nat) (s:Sl Z6),t.aJ.l.drop i=l->(∀m∈l,m.aa.length<=1048576)->RF (js d t l i s) s (kr d t ((t.aJ.l.take i).map Z9.aa) l)
 | [],i,s,_,_=>by rw [js]; exact .pure s
 | m::r,i,s,b,hm=>by
  have h1:=ht.1; have j:=hm m (.head _);rw [js,kr];simp only [on,Fs d m.aa 1 (by decide),D4,<- qG];have e:(bif ((decide (eX d m.aa 1=(0:Int)))&&(bif (decide (eX d m.aa 1=(0:Int))) then((bif (decide (eX d m.aa 1=(0:Int))) then(⟨t.aJ.nl,t.aJ.l.take i⟩:Sl Z9) else(Sl.nil:Sl Z9)).l.map Z9.aa).contains m.aa else false)) then((7:Int)) else(eX d m.aa 1))=fB d ((t.aJ.l.take i).map Z9.aa) m.aa 1:=by
   unfold fB;cases decide (eX d m.aa 1=(0:Int))<;>rfl
  have f:(t.aJ.l.take (i+1)).map Z9.aa=(t.aJ.l.take i).map Z9.aa++[m.aa]:=by rw [qH b,List.map_append]; rfl
  rw [e,<- f];refine RF.bind ?_ fun g=>Fu ht r (i+1) g (mW b).1 fun x hx=>hm x (.tail _ hx);cases decide (fB d ((t.aJ.l.take i).map Z9.aa) m.aa 1=0)
  ·simp only [Bool.not_false,cond_true];rw [eS (by simp; omega),oB,eS (by simp; omega),oB];exact(va s _ _).id
  ·exact .pure s
theorem Fw {d:aj}(f:d.an.l.length<=1048576) (hk:∀t∈d.an.l,lR t):∀(l:List ai) (s:Sl Z6),(∀t∈l,t∈d.an.l)->RF (jW d l s) s (l.flatMap (nk d))
 | [],s,_=>by rw [jW]; exact .pure s
 | t::r,s,hm=>by
  have ht:=hk t (hm t (.head _));rw [jW,List.flatMap_cons];simp only [on];refine RF.bind ?_ fun i=>Fw f hk r i fun x hx=>hm x (.tail _ hx);have g:∀o:Option (Sl Z6),(o.bind fun b=>(aQ 24 s b).bind fun j=>some j)=(o.bind fun b=>aQ 24 s b).bind fun x=>some x:=fun o=>by cases o<;>rfl
  unfold nk;cases decide (t.ar=(1:Int))
  ·simp only [cond_false];cases decide (t.ar=(3:Int))
   ·exact .pure s
   ·simp only [cond_true];rw [g];refine(Aa s fun hb=>?_).id;obtain⟨nl,e⟩:=Fu (d:=d) ht t.aJ.l 0 (Sl.nil:Sl Z6) rfl ht.2.2 (by show 0+_<=_; simp only [List.take_zero,List.map_nil]; omega);unfold rp;rw [e];exact⟨nl,rfl⟩
  ·simp only [cond_true];rw [g];refine(Aa s fun hb=>?_).id;obtain⟨nl,e⟩:=Ft f hk ht t.aW.l 0 (Sl.nil:Sl Z6) rfl (by show 0+_<=_; simp only [List.take_zero]; omega);unfold rm;rw [e];exact⟨nl,rfl⟩
theorem Ac {d:aj}(b:d.an.l.length<=1048576) (hk:∀t∈d.an.l,lR t) (hb:(lQ d).length<=nq):∃nl,pP d=some ⟨nl,lQ d⟩:=by
 obtain⟨nl,e⟩:=Fw b hk d.an.l (Sl.nil:Sl Z6) (fun _ h=>h) (by show 0+_<=_; unfold lQ at hb; omega);unfold pP;rw [e];exact⟨nl,rfl⟩
theorem Fy (p n:Bs) (b:Bool):(ni p n b).length<=1:=by unfold ni bI; cases b<;>simp
theorem sv {α β:Type}{f:α->List β}{g:α->Nat}(h:∀x,(f x).length<=g x):∀l:List α,(l.flatMap f).length<=(l.map g).sum
 | []=>Nat.le_refl _
 | a::r=>by
  rw [List.flatMap_cons,List.length_append,List.map_cons,List.sum_cons];have:=h a; have:=sv h r; omega
theorem NC {α:Type}(l:List α):(l.map fun _=>1).sum=l.length:=by
 induction l with
 | nil=>rfl
 | cons a r b=>simp only [List.map_cons,List.sum_cons,List.length_cons,b]; omega
theorem Fz (p:Bs) (y:Z7) (l:List Z8):(lN p y l).length<=l.length/\(nj p y l).length<=l.length:=by
 rw [<- NC l];exact⟨sv (fun _=>Fy _ _ _) l,sv (fun _=>Fy _ _ _) l⟩
theorem FA (f:Z7):f.aF.l.length+1<=f.sz:=by
 have:=f.bl; have:=Sl.nL (f:=Z8.sz) f.aF Z8.pos; omega
theorem ND {t:ai}(n:Bs):(dM t.ay.l n).1.aF.l.length<=t.sz:=by
 rcases Fl t.ay.l n with e|e
 ·rw [e]; exact Nat.zero_le _
 ·have:=FA (dM t.ay.l n).1; have:=Sl.cC (f:=Z7.sz) e; have:=t.bl; omega
theorem NE (d:aj) (t:ai) (x:Z7):(ko d t x).length<=x.sz+t.sz:=by
 have h1:=FA x;unfold ko;cases (dM t.ay.l x.aa).2
 ·simp only [Bool.not_false,cond_true,List.length_cons,List.length_nil]; omega
 ·simp only [Bool.not_true,cond_false,List.length_append];have b:=(Fz (t.aa++[46]++x.aa) (dM t.ay.l x.aa).1 x.aF.l).1;have f:=(Fz (t.aa++[46]++x.aa) x (dM t.ay.l x.aa).1.aF.l).2;have g:=ND (t:=t) x.aa;have i:(bI (!iW d (dM t.ay.l x.aa).1.aA x.aA) 10 (t.aa++[46]++x.aa)).length<=1:=by unfold bI; cases (!iW d (dM t.ay.l x.aa).1.aA x.aA)<;>simp
  omega
theorem NF {α:Type}(g:α->Nat) (c:Nat) (l:List α):(l.map fun x=>g x+c).sum=(l.map g).sum+l.length*c:=by
 induction l with
 | nil=>simp
 | cons a r b=>simp only [List.map_cons,List.sum_cons,List.length_cons,b,Nat.succ_mul]; omega
theorem NG (d:aj) (t f:ai):(lP d t f.ay.l).length<=f.sz*(1+t.sz):=by
 have h1:=sv (NE d t) f.ay.l;rw [NF] at h1;have b:=f.bl;have g:=Sl.nL (f:=Z7.sz) f.ay Z7.pos;have i:Sl.sz Z7.sz f.ay=1+(f.ay.l.map Z7.sz).sum:=rfl;have j:f.ay.l.length*t.sz<=f.sz*t.sz:=Nat.mul_le_mul_right _ (by omega);rw [Nat.mul_add,Nat.mul_one];unfold lP;omega
noncomputable def ia (l:List ai) (n:Bs):Nat:=bif (aX l n).2 then(aX l n).1.sz else 0
theorem NH (a:ai) (r:List ai) (n:Bs):ia (a::r) n=if a.aa=n then a.sz else ia r n:=by
 unfold ia aX;rw [List.find?_cons];by_cases h:a.aa=n
 ·rw [show (a.aa==n)=true by simpa using h,if_pos h]; rfl
 ·rw [show (a.aa==n)=false by simpa using h,if_neg h]
theorem FB (s:Bs) (c:Nat):∀g:List Bs,g.Nodup->(g.map fun n=>if s=n then c else 0).sum<=c
 | [],_=>Nat.zero_le _
 | n::r,h=>by
  obtain⟨h1,i⟩:=List.nodup_cons.1 h;rw [List.map_cons,List.sum_cons];by_cases f:s=n
  ·have h0:∀l:List Bs,n∉l->(l.map fun n=>if s=n then c else 0).sum=0:=fun l hl=>by
    induction l with
    | nil=>rfl
    | cons b q j =>
     rw [List.map_cons,List.sum_cons,if_neg (fun e=>hl (by rw [<- f,e]; exact .head _)),j (fun hq=>hl (.tail _ hq))]
   rw [if_pos f,h0 r h1]; omega
  ·rw [if_neg f]; have:=FB s c r i; omega
theorem FC:∀(l:List ai) (f:List Bs),f.Nodup->(f.map (ia l)).sum<=(l.map ai.sz).sum
 | [],f,_=>by
  have:∀q:List Bs,(q.map (ia [])).sum=0:=fun q=>by
   induction q with
   | nil=>rfl
   | cons b q g=>rw [List.map_cons,List.sum_cons,g]; rfl
  rw [this]; exact Nat.zero_le _
 | a::r,f,h=>by
  have h1:=FB a.aa a.sz f h;have j:=FC r f h;have i:∀q:List Bs,(q.map (ia (a::r))).sum<=(q.map fun n=>if a.aa=n then a.sz else 0).sum+(q.map (ia r)).sum:=fun q=>by
   induction q with
   | nil=>exact Nat.le_refl _
   | cons b q g =>
    simp only [List.map_cons,List.sum_cons];rw [NH]
    split<;>omega
  have:=i f;rw [List.map_cons,List.sum_cons]; omega
def jL:List Bs->List Bs->List Bs
 | _,[]=>[]
 | s,n::r=>bif s.contains n then jL (s++[n]) r else n::jL (s++[n]) r
theorem Ad:∀(l s:List Bs) (n:Bs),n∈jL s l->n∉s
 | [],_,_,h=>by cases h
 | a::r,s,n,h=>by
  rw [jL] at h;cases hc:s.contains a
  ·rw [hc,cond_false] at h;rcases List.mem_cons.1 h with rfl|h
   ·simpa using hc
   ·have:=Ad r (s++[a]) n h;exact fun hn=>this (by simp [hn])
  ·rw [hc,cond_true] at h;have:=Ad r (s++[a]) n h;exact fun hn=>this (by simp [hn])
theorem Ae:∀(l s:List Bs),(jL s l).Nodup
 | [],_=>List.nodup_nil
 | a::r,s=>by
  rw [jL];cases s.contains a
  ·rw [cond_false,List.nodup_cons];exact⟨fun h=>Ad r (s++[a]) a h (by simp),Ae r _⟩
  ·rw [cond_true]; exact Ae r _
theorem FD (d:aj) (t:ai):∀(l s:List Bs),(jK d t s l).length<=l.length+((jL s l).map (ia d.an.l)).sum*(1+t.sz)
 | [],s=>by simp [jK]
 | n::r,s=>by
  have i:=FD d t r (s++[n]);rw [jK,List.length_append,jL];cases he:decide (fB d s n 2=0)
  ·simp only [Bool.not_false,cond_true,List.length_cons,List.length_nil];cases s.contains n
   ·simp only [cond_false,List.map_cons,List.sum_cons];have:((jL (s++[n]) r).map (ia d.an.l)).sum*(1+t.sz)<=(ia d.an.l n+((jL (s++[n]) r).map (ia d.an.l)).sum)*(1+t.sz):=Nat.mul_le_mul_right _ (by omega);omega
   ·simp only [cond_true]; omega
  ·have he:=oD he;have hc:s.contains n=false:=by
    cases hc:s.contains n
    ·rfl
    ·unfold fB at he;rw [hc,Bool.and_true] at he;cases b:decide (eX d n 2=0)
     ·rw [b,cond_false] at he; rw [decide_eq_false_iff_not] at b; exact absurd he b
     ·rw [b,cond_true] at he; cases he
   have g:(aX d.an.l n).2=true:=by
    unfold fB at he;rw [hc,Bool.and_false,cond_false] at he;unfold eX at he;cases g:(aX d.an.l n).2
    ·rw [g] at he;cases f:dh n
     ·rw [f] at he; cases he
     ·rw [f] at he; cases he
    ·rfl
   have f:ia d.an.l n=(aX d.an.l n).1.sz:=by unfold ia; rw [g]; rfl
   have h1:=NG d t (aX d.an.l n).1;rw [hc];simp only [Bool.not_true,cond_false,List.map_cons,List.sum_cons,List.length_cons,Nat.add_mul];rw [f]; omega
theorem FE (d:aj) (t:ai):∀(l:List Z9) (s:List Bs),(kr d t s l).length<=l.length
 | [],s=>Nat.le_refl _
 | m::r,s=>by
  have b:=FE d t r (s++[m.aa]);rw [kr,List.length_append,List.length_cons];have:(bI (!decide (fB d s m.aa 1=0)) (fB d s m.aa 1) (t.aa++[46]++m.aa)).length<=1:=by unfold bI; cases (!decide (fB d s m.aa 1=0))<;>simp
  omega
theorem NI (d:aj) (t:ai):(nk d t).length<=t.sz+(d.an.l.map ai.sz).sum*(1+t.sz):=by
 have h0:=t.bl;have h1:=Sl.nL (f:=Bs.sz) t.aW (fun s=>Nat.succ_le_succ (Nat.zero_le _));have g:=Sl.nL (f:=Z9.sz) t.aJ Z9.pos;unfold nk;cases decide (t.ar=1)
 ·cases decide (t.ar=3)
  ·exact Nat.zero_le _
  ·simp only [cond_false,cond_true];have:=FE d t t.aJ.l []; omega
 ·simp only [cond_true];have i:=FD d t t.aW.l [];have b:=FC d.an.l (jL [] t.aW.l) (Ae _ _);have j:=Nat.mul_le_mul_right (1+t.sz) b;omega
theorem FF (S:Nat):∀l:List ai,(l.map fun t=>t.sz+S*(1+t.sz)).sum=(l.map ai.sz).sum+S*(l.length+(l.map ai.sz).sum)
 | []=>rfl
 | a::r=>by
  rw [List.map_cons,List.sum_cons,FF S r,List.map_cons,List.sum_cons,List.length_cons];simp only [Nat.mul_add,Nat.mul_one];omega
theorem FG {d:aj}(i:d.sz<=1048576):(lQ d).length<=3300000000000:=by
 have h0:=d.bl;have h1:Sl.sz ai.sz d.an=1+(d.an.l.map ai.sz).sum:=rfl;have j:=Sl.nL (f:=ai.sz) d.an ai.pos;have b:=sv (NI d) d.an.l;rw [FF] at b;have g:(d.an.l.map ai.sz).sum<=1048576:=by omega
 have k:(d.an.l.map ai.sz).sum*(d.an.l.length+(d.an.l.map ai.sz).sum)<=1048576*(1048576+1048576):=Nat.mul_le_mul g (by omega);unfold lQ;omega
theorem NJ {d:aj}{a n:Bs}(b:Rd d a) (hn:Rd d n):iS (cc d) a n=iS d a n:=by
 unfold iS;rw [iV b,iV hn];simp only [show ∀t,(bD t).ar=t.ar from fun _=>rfl,show ∀t,(bD t).aW=t.aW from fun _=>rfl,show ∀t,(bD t).aJ.l=t.aJ.l.map eM from fun _=>rfl,List.any_map];rfl
theorem FH {d:aj}{n:Bs}(h:Rd d n) (k:Int):eX (cc d) n k=eX d n k:=by
 unfold eX;rw [iV h]; rfl
theorem NK:bV Z8.zero=Z8.zero:=by
 unfold bV;rw [kf]; rfl
theorem vb (n:Bs):∀l:List Z8,dX (l.map bV) n=(bV (dX l n).1,(dX l n).2)
 | []=>by show (Z8.zero,false)=(bV Z8.zero,false); rw [NK]
 | a::r=>by
  have b:=vb n r;unfold dX at b ⊢;rw [List.map_cons,List.find?_cons,List.find?_cons,show (bV a).aa=a.aa from rfl];cases a.aa==n
  ·exact b
  ·rfl
theorem FI (n:Bs):∀l:List Z7,dM (l.map cK) n=(cK (dM l n).1,(dM l n).2)
 | []=>rfl
 | a::r=>by
  have b:=FI n r;unfold dM at b ⊢;rw [List.map_cons,List.find?_cons,List.find?_cons,show (cK a).aa=a.aa from rfl];cases a.aa==n
  ·exact b
  ·rfl
theorem FJ (p:Bs) (y:Z7):∀l:List Z8,lN p (cK y) (l.map bV)=lN p y l
 | []=>rfl
 | a::r=>by
  have b:=FJ p y r;unfold lN at b ⊢;rw [List.map_cons,List.flatMap_cons,List.flatMap_cons,b,show (cK y).aF.l=y.aF.l.map bV from rfl,show (bV a).aa=a.aa from rfl,vb];rfl
theorem FK (p:Bs) (x:Z7):∀l:List Z8,nj p (cK x) (l.map bV)=nj p x l
 | []=>rfl
 | a::r=>by
  have b:=FK p x r;unfold nj at b ⊢;rw [List.map_cons,List.flatMap_cons,List.flatMap_cons,b,show (cK x).aF.l=x.aF.l.map bV from rfl,show (bV a).aa=a.aa from rfl,vb];rfl
theorem FM {l:List Z7}{f:Z7}(h:f∈l):f.aA.aa∈dr l:=List.mem_flatMap.2 ⟨f,h,.head _⟩
theorem NL {l:List Z7}{n:Bs}(h:(dM l n).2=true):(dM l n).1∈l:=by
 unfold dM at h ⊢;cases e:l.find? (fun t=>t.aa==n) with
 | none=>rw [e] at h; cases h
 | some t=>exact List.mem_of_find?_eq_some e
theorem NM {d:aj}(hl:d.an.l.length<=1048576){t:ai}{x:Z7}(ht:∀f∈t.ay.l,Rd d f.aA.aa/\gU f.aA.aK) (hx:Rd d x.aA.aa/\gU x.aA.aK):ko (cc d) (bD t) (cK x)=ko d t x:=by
 unfold ko;rw [show (bD t).ay.l=t.ay.l.map cK from rfl,show (cK x).aa=x.aa from rfl,FI];simp only [show (bD t).aa=t.aa from rfl,show ∀f,(cK f).aA=f.aA from fun _=>rfl,show (cK x).aF.l=x.aF.l.map bV from rfl,show ∀f,(cK f).aF.l=f.aF.l.map bV from fun _=>rfl,FJ,FK];cases b:(dM t.ay.l x.aa).2
 ·simp only [Bool.not_false,cond_true]
 ·obtain⟨h1,g⟩:=ht _ (NL b);have i:(cc d).an.l.length<=1048576:=by
   show ((gA d).map bD).length<=_;rw [List.length_map];exact Nat.le_trans (List.length_filter_le _ _) hl
  rw [Nr hl i g hx.2 (NJ hx.1 h1)]
theorem FN {d:aj}(hl:d.an.l.length<=1048576){t:ai}(ht:∀f∈t.ay.l,Rd d f.aA.aa/\gU f.aA.aK):∀l:List Z7,(∀f∈l,Rd d f.aA.aa/\gU f.aA.aK)->lP (cc d) (bD t) (l.map cK)=lP d t l
 | [],_=>rfl
 | a::r,h=>by
  have b:=FN hl ht r fun f g=>h f (.tail _ g);unfold lP at b ⊢;rw [List.map_cons,List.flatMap_cons,List.flatMap_cons,b,NM hl ht (h a (.head _))]
structure Gd (d:aj):Prop where
 l:d.an.l.length<=1048576
 f:∀t∈d.an.l,aX d.an.l t.aa=(t,true)
 s:∀t∈d.an.l,∀f∈t.ay.l,gU f.aA.aK
theorem NN {d:aj}(g:Gd d){n:Bs}(h:Rd d n):∀f∈(aX d.an.l n).1.ay.l,Rd d f.aA.aa/\gU f.aA.aK:=fun f b=>by
 cases i:dx d n
 ·rw [qF i] at b; cases b
 ·obtain⟨h1,j⟩:=u6 i;exact⟨(sr (g.f _ h1) (by rw [j]; exact h)).f _ (FM b),g.s _ h1 f b⟩
theorem FO {d:aj}(g:Gd d){t:ai}(ht:∀f∈t.ay.l,Rd d f.aA.aa/\gU f.aA.aK):∀(l s:List Bs),(∀n∈l,Rd d n)->jK (cc d) (bD t) s l=jK d t s l
 | [],_,_=>rfl
 | n::r,s,h=>by
  have hn:=h n (.head _);rw [jK,jK,FO g ht r _ fun m hm=>h m (.tail _ hm)];unfold fB;rw [FH hn,iV hn,show (bD t).aa=t.aa from rfl];simp only [show ∀t,(bD t).ay.l=t.ay.l.map cK from fun _=>rfl];rw [FN g.l ht _ (NN g hn)]
theorem FP {d:aj}{t:ai}:∀(l:List Z9) (s:List Bs),(∀m∈l,Rd d m.aa)->kr (cc d) (bD t) s (l.map eM)=kr d t s l
 | [],_,_=>rfl
 | m::r,s,h=>by
  rw [List.map_cons,kr,kr,FP r _ fun m hm=>h m (.tail _ hm)];unfold fB;rw [show (eM m).aa=m.aa from rfl,FH (h m (.head _)),show (bD t).aa=t.aa from rfl]
theorem NO {d:aj}(g:Gd d){t:ai}(h:t∈d.an.l) (hr:Rd d t.aa):nk (cc d) (bD t)=nk d t:=by
 have hk:=sr (g.f t h) hr;unfold nk;rw [show (bD t).ar=t.ar from rfl,show (bD t).aW=t.aW from rfl,show (bD t).aJ.l=t.aJ.l.map eM from rfl,
  FO g (fun f b=>⟨hk.f _ (FM b),g.s t h f b⟩) _ _ hk.p]
 by_cases i:t.ar=3
 ·rw [FP _ _ (hk.m i)]
 ·rw [dF i]; rfl
theorem NQ {d:aj}(g:Gd d) (h:lQ d=[]):lQ (cc d)=[]:=by
 unfold lQ at h ⊢;rw [List.flatMap_eq_nil_iff] at h ⊢;intro x hx;obtain⟨t,ht,rfl⟩:=List.mem_map.1 (show x∈(gA d).map bD from hx);obtain⟨h1,b⟩:=u9.1 ht;rw [NO g h1 b];exact h t h1
noncomputable def nz:ag->ag:=@ag.rec (fun _=>ag) (fun _=>List ag) (fun k i t _ _ y b=>ag.mk k i t b.isEmpty b (bu y.l)) [] (fun _ _ b f=>b::f)
theorem Af (k i:Int) (t:Bs) (nl:Bool) (l:List ag) (y:Sl Bs):nz (ag.mk k i t nl l y)=ag.mk k i t l.isEmpty (l.map nz) (bu y.l):=by
 have key:∀l:List ag,(@ag.rec_1 (fun _=>ag) (fun _=>List ag) (fun k i t _ _ y b=>ag.mk k i t b.isEmpty b (bu y.l)) [] (fun _ _ b f=>b::f) l:List ag)=l.map nz:=by
  intro l;induction l with
  | nil=>rfl
  | cons a r b=>exact congrArg (nz a::·) b
 show ag.mk k i t (List.isEmpty (@ag.rec_1 (fun _=>ag) (fun _=>List ag) (fun k i t _ _ y b=>ag.mk k i t b.isEmpty b (bu y.l)) [] (fun _ _ b f=>b::f) l)) (@ag.rec_1 (fun _=>ag) (fun _=>List ag) (fun k i t _ _ y b=>ag.mk k i t b.isEmpty b (bu y.l)) [] (fun _ _ b f=>b::f) l) (bu y.l)=_;rw [key];cases l<;>rfl
theorem iX (v:ag):nz v=ag.mk v.ar v.bx v.bw v.aN.l.isEmpty (v.aN.l.map nz) (bu v.a_.l):=by cases v; exact Af ..
structure Nz (v w:ag):Prop where
 e:nz v=nz w
theorem Nz.kind {v w:ag}(h:Nz v w):v.ar=w.ar:=by have:=h.e; rw [iX,iX w] at this; injection this
theorem Nz.int {v w:ag}(h:Nz v w):v.bx=w.bx:=by have:=h.e; rw [iX,iX w] at this; injection this
theorem Nz.text {v w:ag}(h:Nz v w):v.bw=w.bw:=by have:=h.e; rw [iX,iX w] at this; injection this
theorem Nz.items {v w:ag}(h:Nz v w):v.aN.l.map nz=w.aN.l.map nz:=by have:=h.e; rw [iX,iX w] at this; injection this
theorem Nz.keys {v w:ag}(h:Nz v w):v.a_.l=w.a_.l:=by
 have:=h.e; rw [iX,iX w] at this
 injection this with _ _ _ _ _ b
 have f:(bu v.a_.l).l=(bu w.a_.l).l:=congrArg (fun s:Sl Bs=>s.l) b;exact f
theorem FQ:∀(n:Nat) (v:ag),v.sz<=n->nz (cG v)=nz v
 | 0,v,h=>by have:=v.pos; omega
 | n+1,v,h=>by
  rw [kf,Af,iX v,List.map_map];have e:v.aN.l.map (nz ∘ cG)=v.aN.l.map nz:=List.map_congr_left fun x hx=>FQ n x (by have:=ag.j8 hx; omega);rw [e];cases v.aN.l<;>rfl
theorem Nz.cp (v:ag):Nz v (cG v):=⟨(FQ _ v (Nat.le_refl _)).symm⟩
theorem nt {α:Type}{z:Nat}{s r u:Sl α}(h:aQ z s r=some u):u.l=s.l++r.l:=by
 unfold aQ at h; split at h
 ·cases h; rfl
 ·cases h
theorem FR {rec:ag->Option ag}:∀(l:List ag) (s t:Sl ag),(∀x∈l,∀r,rec x=some r->nz r=nz x)->jt rec l s=some t->t.l.map nz=s.l.map nz++l.map nz
 | [],s,t,_,h=>by rw [jt] at h; cases h; simp
 | x::l,s,t,hr,h=>by
  rw [jt] at h;simp only [Ab.on] at h;obtain⟨x',b,h⟩:=aZ h;obtain⟨u,f,h⟩:=aZ h;have:=FR l u t (fun y g=>hr y (.tail _ g)) h;rw [this,nt f];simp [hr x (.head _) _ b]
theorem Ag:∀(n:Nat) (v r:ag),fR n v=some r->nz r=nz v
 | 0,v,r,h=>by rw [fR] at h; cases h
 | 1,v,r,h=>by rw [fR,nV] at h; cases h
 | n+2,v,r,h=>by
  rw [fR,nV] at h;simp only [Ab.on] at h;obtain⟨a,f,h⟩:=aZ h;obtain⟨b,i,h⟩:=aZ h;obtain⟨a',j,f⟩:=aZ f;cases f;cases h;have h1:=FR v.aN.l _ _ (fun x _ r hr=>Ag n x r hr) j;have g:=nt i;simp only [Sl.nil,List.map_nil,List.nil_append] at h1 g;rw [Af,iX v,h1,g];have k:a.l.isEmpty=v.aN.l.isEmpty:=by
   have:=congrArg List.length h1;simp only [List.length_map] at this;rw [Bool.eq_iff_iff,List.isEmpty_iff_length_eq_zero,List.isEmpty_iff_length_eq_zero,this]
  rw [k]
def e8:ag:=ag.mk (0:Int) (0:Int) ([]:Bs) true ([]) (Sl.nil:Sl Bs)
theorem FT {v w:ag}(h:Nz v w) (s:Bs):∀(l:List Bs) (i:Nat) (o o':Unit ⊕ (ag×Bool)),iI v s l i=some o->iI w s l i=some o'->(match o with|.inl _=>(e8,false)|.inr e=>e).2=(match o' with|.inl _=>(e8,false)|.inr e=>e).2/\Nz (match o with|.inl _=>(e8,false)|.inr e=>e).1 (match o' with|.inl _=>(e8,false)|.inr e=>e).1
 | [],i,o,o',h1,f=>by
  rw [iI] at h1 f;cases h1; cases f;exact⟨rfl,⟨rfl⟩⟩
 | x::l,i,o,o',h1,f=>by
  rw [iI] at h1 f;simp only [Ab.on] at h1 f;have hlen:v.aN.l.length=w.aN.l.length:=by have:=congrArg List.length h.items; simpa using this
  cases hx:x==s
  ·rw [hx,cond_false] at h1 f;exact FT h s l (i+1) o o' h1 f
  ·rw [hx,cond_true] at h1 f;rw [<- hlen] at f;cases hb:decide (((v.aN.l.length:Nat):Int)<=((i:Nat):Int))
   ·rw [hb,cond_false] at h1 f;obtain⟨a,g,h1⟩:=aZ h1;obtain⟨a',a2,h1⟩:=aZ h1;obtain⟨b,j,f⟩:=aZ f;obtain⟨b',k,f⟩:=aZ f;cases h1; cases f;refine⟨rfl,⟨?_⟩⟩;show nz a'=nz b';rw [Ag _ _ _ a2,Ag _ _ _ k];have e:=congrArg (fun l=>l[i]?) h.items;simp only [List.getElem?_map,g,j,Option.map_some] at e;exact oJ e
   ·rw [hb,cond_true] at h1 f;cases h1; cases f;exact⟨rfl,⟨rfl⟩⟩
structure Rw (d:aj) (c c':Z4):Prop where
 d1:c.Fd=d
 d2:c'.Fd=cc d
 v1:c.dW=e8
 v2:c'.dW=e8
 li:c'.c7=c.c7
 co:c'.de=c.de
 er:c'.b6=c.b6
theorem Rw.fail {d:aj}{c c':Z4}(h:Rw d c c') (e:Int):Rw d (dK c e) (dK c' e):=by
 unfold dK;rw [h.er];cases decide (c.b6=0)
 ·exact h
 ·exact⟨h.d1,h.d2,h.v1,h.v2,h.li,h.co,rfl⟩
theorem Rw.count {d:aj}{c c':Z4}(h:Rw d c c') (n:Int):Rw d (Z4.mk c.Fd c.dW c.c7 n c.b6) (Z4.mk c'.Fd c'.dW c'.c7 n c'.b6):=⟨h.d1,h.d2,h.v1,h.v2,h.li,rfl,h.er⟩
theorem Rw.node {d:aj}{c c' z i:Z4}(h:Rw d c c'){L:Int}(e:gX c L=some z) (g:gX c' L=some i):Rw d z i:=by
 unfold gX at e g;simp only [Ab.on] at e g;have key:∀a a':Z4,Rw d a a'->((cA a.de (1:Int)).bind fun b=>bif (decide ((4096:Int)<b)) then some (dK (Z4.mk a.Fd a.dW a.c7 b a.b6) (4:Int)) else(some (Z4.mk a.Fd a.dW a.c7 b a.b6)))=some z ->
   ((cA a'.de (1:Int)).bind fun b=>bif (decide ((4096:Int)<b)) then some (dK (Z4.mk a'.Fd a'.dW a'.c7 b a'.b6) (4:Int)) else(some (Z4.mk a'.Fd a'.dW a'.c7 b a'.b6)))=some i->Rw d z i:=by
  intro a a' j h1 f;rw [j.co] at f;obtain⟨x,l,h1⟩:=aZ h1;obtain⟨x',k,f⟩:=aZ f;rw [l] at k;obtain rfl:=oJ k;cases hb:decide ((4096:Int)<x)
  ·rw [hb,cond_false] at h1 f; cases h1; cases f; exact j.count x
  ·rw [hb,cond_true] at h1 f; cases h1; cases f; exact(j.count x).fail 4
 cases hb:decide ((24:Int)<L)
 ·rw [hb] at e g; exact key _ _ h e g
 ·rw [hb] at e g; exact key _ _ (h.fail 5) e g
theorem Rw.scalar {d:aj}{c c' z f:Z4}{v w x y:ag}(h:Rw d c c') (hv:Nz v w){n:Bs}(e:iK c n v=some (x,z)) (b:iK c' n w=some (y,f)):Rw d z f:=by
 unfold iK at e b;rw [<- hv.kind,<- hv.int] at b;simp only [Ab.on] at e b
 revert e b
 generalize (((((n==([73,110,116]:Bs)))&&(decide (v.ar=(2:Int))))&&(decide ((-2147483648:Int)<=v.bx)))&&(decide (v.bx<(2147483648:Int))))=g;cases g
 ·simp only [cond_false];generalize (bif (((n==([83,116,114,105,110,103]:Bs)))&&(decide (v.ar=(3:Int)))) then((((n==([83,116,114,105,110,103]:Bs)))&&(decide (v.ar=(3:Int))))) else(bif (((n==([66,111,111,108,101,97,110]:Bs)))&&(decide (v.ar=(1:Int)))) then((((n==([66,111,111,108,101,97,110]:Bs)))&&(decide (v.ar=(1:Int))))) else((((n==([73,68]:Bs)))&&(decide (v.ar=(3:Int)))))))=i;cases i
  ·simp only [cond_false];generalize (((n==([73,68]:Bs)))&&(decide (v.ar=(2:Int))))=j;cases j
   ·simp only [cond_false];intro e b; cases e; cases b; exact h.fail 23
   ·simp only [cond_true];intro e b;obtain⟨_,_,e⟩:=aZ e;obtain⟨_,_,b⟩:=aZ b;cases e; cases b; exact h
  ·simp only [cond_true];intro e b; cases e; cases b; exact h
 ·simp only [cond_true];intro e b; cases e; cases b; exact h
theorem FU {d:aj}{c c':Z4}{v w:ag}(hv:Nz v w):∀l:List Z9,(fS c v l=Sum.inl ()/\fS c' w (l.map eM)=Sum.inl ())\/∃x y,fS c v l=Sum.inr (x,c)/\fS c' w (l.map eM)=Sum.inr (y,c')
 | []=>.inl ⟨rfl,rfl⟩
 | m::l=>by
  rw [List.map_cons,fS,fS];simp only [Ab.on];rw [show (eM m).aa=m.aa from rfl,<- hv.text];cases m.aa==v.bw
  ·simp only [cond_false]; exact FU (d:=d) hv l
  ·exact .inr ⟨_,_,rfl,rfl⟩
theorem Rw.NR {d:aj}{c c':Z4}{v w:ag}(h:Rw d c c') (hv:Nz v w) (t:ai):Rw d (fT c t v).2 (fT c' (bD t) w).2:=by
 unfold fT;simp only [Ab.on];rw [<- hv.kind,h.li,show (bD t).aJ.l=t.aJ.l.map eM from rfl];cases (decide (v.ar=(4:Int)))||((decide (v.ar=(3:Int)))&&(!c.c7))
 ·exact h.fail 23
 ·rcases FU (d:=d) (c:=c) (c':=c') hv t.aJ.l with ⟨b,f⟩|⟨x,y,b,f⟩
  ·rw [b,f]; exact h.fail 23
  ·rw [b,f]; exact h
theorem Rw.keys {d:aj}(t:ai):∀(l:List Bs){c c':Z4},Rw d c c'->Rw d (fU t l c) (fU (bD t) l c')
 | [],_,_,h=>h
 | k::l,c,c',h=>by
  rw [fU,fU];simp only [Ab.on];have e:(fQ (bD t).aM k).2=(fQ t.aM k).2:=by
   rw [u_,u_,show (bD t).aM.l=t.aM.l.map bV from rfl,vb]
  rw [e];refine Rw.keys t l ?_;cases (fQ t.aM k).2
  ·exact h.fail 22
  ·exact h
theorem NS {v w x y:ag}{b b':Bool}(h:Nz v w){s:Bs}(e:iJ v s=some (x,b)) (f:iJ w s=some (y,b')):b=b'/\Nz x y:=by
 unfold iJ at e f;rw [<- h.kind] at f;cases hk:decide (v.ar=(6:Int))
 ·rw [hk] at e f; cases e; cases f; exact⟨rfl,⟨rfl⟩⟩
 ·rw [hk,Bool.not_true,cond_false] at e f;obtain⟨o,i,e⟩:=aZ e;obtain⟨o',g,f⟩:=aZ f;rw [<- h.keys] at g;have:=FT h s _ _ _ _ i g;cases o<;>cases o'<;>(simp only [Ab.on] at e f; cases e; cases f; exact this)
theorem FV {α:Type}(f:α->α) (l:List α) (k:Int):cI (l.map f) k=(cI l k).map f:=by
 unfold cI
 split
 ·rw [List.getElem?_map]
 ·rfl
theorem FW (s s':Sl Z8) (f:s'.l=s.l.map bV) (i:Int):∀(n:Nat) (k:Int),jX s' i n k=jX s i n k
 | 0,_=>rfl
 | n+1,k=>by
  rw [jX,jX,f,FV,FV];cases decide (k<i)
  ·rfl
  ·simp only [cond_true];cases cI s.l k with
   | none=>rfl
   | some a =>
    simp only [Option.map_some,oB];cases cI s.l i with
    | none=>rfl
    | some b =>
     simp only [Option.map_some,oB,show (bV a).aa=a.aa from rfl,show (bV b).aa=b.aa from rfl,FW s s' f i n]
theorem NT (t:ai) (i:Int):pR (bD t).aM i=pR t.aM i:=FW t.aM _ rfl i F0 0
theorem Ah {c:Z4}(h:c.dW=e8) (v:ag):jv c v=some (!((!c.c7)||(!decide (v.ar=(7:Int))))):=by
 unfold jv;rw [h];cases ((!c.c7)||(!decide (v.ar=(7:Int))))<;>rfl
def gB (d:aj) (k:Z4->aG->ag->Int->Option (ag×Z4)):Prop:=∀{c c':Z4}{t:aG}{v w x y:ag}{L:Int}{z b:Z4},Rw d c c'->Nz v w->Rd d t.aa->t.aK.l.length<=1048576->k c t v L=some (x,z)->k c' t w L=some (y,b)->Rw d z b
theorem FX {d:aj}{k:Z4->aG->ag->Int->Option (ag×Z4)}(hk:gB d k){t:aG}(ht:Rd d t.aa) (hl:t.aK.l.length<=1048576) (L:Int):∀(l l':List ag){c c':Z4}{a a' b b':ag}{z g:Z4},l.map nz=l'.map nz->Rw d c c'->gr t L k l c a=some (z,b)->gr t L k l' c' a'=some (g,b')->Rw d z g
 | [],[],c,c',a,a',b,b',z,g,_,h,e,f=>by
  rw [gr] at e f;cases e; cases f; exact h
 | [],_::_,c,c',a,a',b,b',z,g,hm,_,_,_=>by simp at hm
 | _::_,[],c,c',a,a',b,b',z,g,hm,_,_,_=>by simp at hm
 | v::l,w::l',c,c',a,a',b,b',z,g,hm,h,e,f=>by
  rw [List.map_cons,List.map_cons] at hm;obtain⟨h1,i⟩:=List.cons.inj hm;rw [gr] at e f;simp only [Ab.on] at e f;rw [h.er] at f;cases hb:decide (c.b6=(0:Int))
  ·rw [hb,cond_false] at e f; cases e; cases f; exact h
  ·rw [hb,cond_true] at e f;obtain⟨j,f1,e⟩:=aZ e;obtain⟨m,f2,f⟩:=aZ f;rw [f1] at f2;obtain rfl:=oJ f2;obtain⟨r,g1,e⟩:=aZ e;obtain⟨o,g2,f⟩:=aZ f;obtain⟨_,_,e⟩:=aZ e;obtain⟨_,_,f⟩:=aZ f;exact FX (k:=k) hk ht hl L l l' i (hk h ⟨h1⟩ ht hl g1 g2) e f
theorem FY {d:aj}{k k2:Z4->aG->ag->Int->Option (ag×Z4)}(hk:gB d k) (F:gB d k2) (t:ai){v w:ag}(hv:Nz v w) (L:Int):∀(l:List Z8) (i:Nat){c c':Z4}{a a' b b':ag}{z m:Z4},(∀x∈l,Rd d x.aA.aa/\x.aA.aK.l.length<=1048576)->Rw d c c' ->
  fM t v L k k2 l i c a=some (z,b)->fM (bD t) w L k k2 (l.map bV) i c' a'=some (m,b')->Rw d z m
 | [],i,c,c',a,a',b,b',z,m,_,h,e,f=>by
  rw [List.map_nil] at f;rw [fM] at e f;cases e; cases f; exact h
 | x::l,i,c,c',a,a',b,b',z,m,hx,h,e,f=>by
  obtain⟨G,H⟩:=hx x (.head _);rw [List.map_cons] at f;rw [fM] at e f;simp only [Ab.on] at e f;rw [h.er,NT] at f;cases hb:decide (c.b6=(0:Int))
  ·rw [hb,cond_false] at e f; cases e; cases f; exact h
  ·rw [hb,cond_true] at e f;obtain⟨q,f1,e⟩:=aZ e;obtain⟨U,f2,f⟩:=aZ f;rw [f1] at f2;obtain rfl:=oJ f2;obtain⟨r,g1,e⟩:=aZ e;obtain⟨s,g2,f⟩:=aZ f;have step:Rw d r.1 s.1->Rw d z m:=fun hr=>FY (k:=k) (k2:=k2) hk F t hv L l (i+1) (fun y M=>hx y (.tail _ M)) hr e f;refine step ?_;cases q
   ·rw [cond_false] at g1 g2;obtain⟨p,N,g1⟩:=aZ g1;obtain⟨I,O,g2⟩:=aZ g2;obtain⟨P,J⟩:=NS hv (b:=p.2) (b':=I.2) (x:=p.1) (y:=I.1) N O;rw [Ah h.v1] at g1;rw [Ah h.v2,h.li,<- J.kind,<- P] at g2;have rest:∀{g1:Unit},(bif x.cT then((cA L (1:Int)).bind fun B=>(k2 c x.aA x.dD B).bind fun o=>(aQ 16 a.a_ (⟨false,[x.aa]⟩:Sl Bs)).bind fun j=>(aQ 80 a.aN (⟨false,[o.1]⟩:Sl ag)).bind fun g=>some (o.2,(ag.mk a.ar a.bx a.bw g.nl g.l j))) else(bif ee x.aA then((aQ 16 a.a_ (⟨false,[x.aa]⟩:Sl Bs)).bind fun j=>(aQ 80 a.aN (⟨false,[ag.zero]⟩:Sl ag)).bind fun g=>some (dK c 22,(ag.mk a.ar a.bx a.bw g.nl g.l j))) else some (c,a)))=some r ->
     (bif x.cT then((cA L (1:Int)).bind fun B=>(k2 c' x.aA (cG x.dD) B).bind fun o=>(aQ 16 a'.a_ (⟨false,[x.aa]⟩:Sl Bs)).bind fun j=>(aQ 80 a'.aN (⟨false,[o.1]⟩:Sl ag)).bind fun g=>some (o.2,(ag.mk a'.ar a'.bx a'.bw g.nl g.l j))) else(bif ee x.aA then((aQ 16 a'.a_ (⟨false,[x.aa]⟩:Sl Bs)).bind fun j=>(aQ 80 a'.aN (⟨false,[ag.zero]⟩:Sl ag)).bind fun g=>some (dK c' 22,(ag.mk a'.ar a'.bx a'.bw g.nl g.l j))) else some (c',a')))=some s->Rw d r.1 s.1:=by
     intro _ g1 g2;cases hh:x.cT
     ·rw [hh,cond_false] at g1 g2;cases hn:ee x.aA
      ·rw [hn,cond_false] at g1 g2; cases g1; cases g2; exact h
      ·rw [hn,cond_true] at g1 g2;obtain⟨_,_,g1⟩:=aZ g1;obtain⟨_,_,g1⟩:=aZ g1;obtain⟨_,_,g2⟩:=aZ g2;obtain⟨_,_,g2⟩:=aZ g2;cases g1; cases g2; exact h.fail 22
     ·rw [hh,cond_true] at g1 g2;obtain⟨Q,m1,g1⟩:=aZ g1;obtain⟨R,m2,g2⟩:=aZ g2;rw [m1] at m2;obtain rfl:=oJ m2;obtain⟨u,C,g1⟩:=aZ g1;obtain⟨S,E,g2⟩:=aZ g2;obtain⟨_,_,g1⟩:=aZ g1;obtain⟨_,_,g1⟩:=aZ g1;obtain⟨_,_,g2⟩:=aZ g2;obtain⟨_,_,g2⟩:=aZ g2;cases g1; cases g2;exact F h (Nz.cp _) G H C E
    cases K:p.2
    ·rw [K] at g1 g2;exact rest (g1:=()) g1 g2
    ·rw [K] at g1 g2;simp only [aU,if_true,oB,Bool.true_and] at g1 g2;cases hm:(!((!c.c7)||(!decide (p.1.ar=(7:Int)))))
     ·rw [hm,Bool.not_false,cond_true] at g1 g2;obtain⟨Q,m1,g1⟩:=aZ g1;obtain⟨R,m2,g2⟩:=aZ g2;rw [m1] at m2;obtain rfl:=oJ m2;obtain⟨u,C,g1⟩:=aZ g1;obtain⟨S,E,g2⟩:=aZ g2;obtain⟨_,_,g1⟩:=aZ g1;obtain⟨_,_,g1⟩:=aZ g1;obtain⟨_,_,g2⟩:=aZ g2;obtain⟨_,_,g2⟩:=aZ g2;cases g1; cases g2;exact hk h J G H C E
     ·rw [hm,Bool.not_true,cond_false] at g1 g2;exact rest (g1:=()) g1 g2
   ·rw [cond_true] at g1 g2; cases g1; cases g2; exact h
def Ai (d:aj) (k:Z4->ai->ag->Int->Option (ag×Z4)):Prop:=∀{c c':Z4}{t:ai}{v w x y:ag}{L:Int}{z b:Z4},Rw d c c'->Nz v w->(∀x∈t.aM.l,Rd d x.aA.aa/\x.aA.aK.l.length<=1048576)->k c t v L=some (x,z)->k c' (bD t) w L=some (y,b)->Rw d z b
def nv (d:aj):Prop:=∀n,Rd d n->∀x∈(aX d.an.l n).1.aM.l,Rd d x.aA.aa/\x.aA.aK.l.length<=1048576
theorem NU {d:aj}{n:Nat}(hk:gB d (dw n)):gB d (gu (n+1)):=by
 intro c c' t v w x y L z f h hv ht hl e b;rw [gu] at e b;simp only [Ab.on] at e b;rw [<- hv.kind] at b;obtain⟨r,f1,e⟩:=aZ e;obtain⟨g,f2,b⟩:=aZ b;cases e; cases b;refine FX (k:=dw n) hk ht hl L _ _ ?_ h f1 f2;cases decide (v.ar=5)
 ·show [nz v]=[nz w]; rw [hv.e]
 ·exact hv.items
theorem NV {d:aj}{n:Nat}(hk:gB d (dw n)):gB d (fh (n+1)):=by
 intro c c' t v w x y L z f h hv ht hl e b;rw [fh] at e b;rw [h.co,h.er] at b;obtain⟨r,f1,e⟩:=aZ e;obtain⟨g,f2,b⟩:=aZ b;cases e; cases b;have:=hk (c:=Z4.mk c.Fd e8 true c.de c.b6) (c':=Z4.mk c'.Fd e8 true c.de c.b6) ⟨h.d1,h.d2,rfl,rfl,rfl,rfl,rfl⟩ hv ht hl f1 f2;exact⟨this.d1,this.d2,h.v1,h.v2,h.li,this.co,this.er⟩
theorem NW {d:aj}{n:Nat}(hk:gB d (dw n)) (f:gB d (fh n)):Ai d (gv (n+1)):=by
 intro c c' t v w x y L z g h hv hi e b;rw [gv] at e b;simp only [Ab.on] at e b;rw [<- hv.kind,<- hv.keys] at b;cases hb:decide (v.ar=(6:Int))
 ·rw [hb] at e b; cases e; cases b; exact h.fail 23
 ·rw [hb,Bool.not_true,cond_false] at e b;obtain⟨r,f1,e⟩:=aZ e;obtain⟨i,f2,b⟩:=aZ b;cases e; cases b;exact FY (k:=dw n) (k2:=fh n) hk f t hv L t.aM.l 0 hi (Rw.keys t v.a_.l h) f1 f2
theorem NX {d:aj}(B:nv d){n:Nat}(hl:gB d (gu n)) (C:Ai d (gv n)):gB d (dw (n+1)):=by
 intro c c' t v w x y L z o h hv ht hw e b;have main:∀{v w:ag},Nz v w->∀{x y:ag}{z o:Z4},
   ((gX c L).bind fun f=>bif (!decide (f.b6=(0:Int))) then(some ((ag.mk (0:Int) (0:Int) ([]:Bs) true ([]) (Sl.nil:Sl Bs)),f)) else(bif (decide (v.ar=(0:Int))) then some ((ag.mk (0:Int) (0:Int) ([]:Bs) true ([]) (Sl.nil:Sl Bs)),bif ee t then dK f (23:Int) else(f)) else((gW t).bind fun i=>bif i.2 then(((gu n) f i.1 v L).bind fun j=>some (j.1,j.2)) else(bif dh t.aa then((iK f t.aa v).bind fun k=>some (k.1,k.2)) else(bif (decide ((cU f.Fd t.aa).1.ar=(4:Int))) then some ((fT f (cU f.Fd t.aa).1 v).1,(fT f (cU f.Fd t.aa).1 v).2) else(((gv n) f (cU f.Fd t.aa).1 v L).bind fun m=>some (m.1,m.2)))))))=some (x,z) ->
   ((gX c' L).bind fun f=>bif (!decide (f.b6=(0:Int))) then(some ((ag.mk (0:Int) (0:Int) ([]:Bs) true ([]) (Sl.nil:Sl Bs)),f)) else(bif (decide (w.ar=(0:Int))) then some ((ag.mk (0:Int) (0:Int) ([]:Bs) true ([]) (Sl.nil:Sl Bs)),bif ee t then dK f (23:Int) else(f)) else((gW t).bind fun i=>bif i.2 then(((gu n) f i.1 w L).bind fun j=>some (j.1,j.2)) else(bif dh t.aa then((iK f t.aa w).bind fun k=>some (k.1,k.2)) else(bif (decide ((cU f.Fd t.aa).1.ar=(4:Int))) then some ((fT f (cU f.Fd t.aa).1 w).1,(fT f (cU f.Fd t.aa).1 w).2) else(((gv n) f (cU f.Fd t.aa).1 w L).bind fun m=>some (m.1,m.2)))))))=some (y,o)->Rw d z o:=by
  intro v w hv x y z o e b;obtain⟨a,E,e⟩:=aZ e;obtain⟨a',a2,b⟩:=aZ b;have g:=h.node E a2;rw [g.er,<- hv.kind] at b;cases h0:decide (a.b6=0)
  ·rw [h0] at e b; cases e; cases b; exact g
  ·rw [h0,Bool.not_true,cond_false] at e b;cases h1:decide (v.ar=0)
   ·rw [h1,cond_false,zy hw,oB] at e b;cases p:jG (cF t.aK).l
    ·rw [p] at e b;simp only [cond_false] at e b;cases q:dh t.aa
     ·rw [q,cond_false] at e b;rw [g.d1,h_] at e;rw [g.d2,h_,iV ht] at b;simp only [show ∀t,(bD t).ar=t.ar from fun _=>rfl] at b;cases s:decide ((aX d.an.l t.aa).1.ar=(4:Int))
      ·rw [s,cond_false] at e b;obtain⟨r,f1,e⟩:=aZ e;obtain⟨u,f2,b⟩:=aZ b;cases e; cases b;exact C g hv (B _ ht) f1 f2
      ·rw [s,cond_true] at e b;cases e; cases b;exact g.NR hv _
     ·rw [q,cond_true] at e b;obtain⟨r,f1,e⟩:=aZ e;obtain⟨u,f2,b⟩:=aZ b;cases e; cases b;exact g.scalar hv f1 f2
    ·rw [p] at e b;simp only [cond_true] at e b;obtain⟨r,f1,e⟩:=aZ e;obtain⟨u,f2,b⟩:=aZ b;cases e; cases b;have hb:=uY t.aK;exact hl (t:=⟨t.aa,⟨false,(cF t.aK).l.drop 1⟩⟩) g hv ht (by show ((cF t.aK).l.drop 1).length<=_; rw [List.length_drop]; omega) f1 f2
   ·rw [h1,cond_true] at e b;cases e; cases b;cases ee t
    ·exact g
    ·exact g.fail 23
 rw [dw] at e b;simp only [Ab.on] at e b;rw [h.d1] at e;rw [h.d2,zY ht,h.li,<- hv.kind] at b;cases hi:fF d t.aa
 ·rw [hi] at e b; cases e; cases b; exact h.fail 10
 ·rw [hi,Bool.not_true,cond_false] at e b;cases hb:c.c7&&decide (v.ar=7)
  ·rw [hb,cond_false] at e b;exact main hv e (by rw [<- hv.kind]; exact b)
  ·rw [hb,cond_true,h.v1] at e;rw [hb,cond_true,h.v2] at b;exact main (v:=e8) (w:=e8) ⟨rfl⟩ e b
theorem FZ {d:aj}(f:nv d):∀n,gB d (dw n)/\gB d (gu n)/\Ai d (gv n)/\gB d (fh n)
 | 0=>by
  refine⟨?_, ?_, ?_, ?_⟩
  ·intro c c' t v w x y L z b _ _ _ _ e; rw [dw] at e; cases e
  ·intro c c' t v w x y L z b _ _ _ _ e; rw [gu] at e; cases e
  ·intro c c' t v w x y L z b _ _ _ e; rw [gv] at e; cases e
  ·intro c c' t v w x y L z b _ _ _ _ e; rw [fh] at e; cases e
 | n+1=>by
  obtain⟨h1,g,i,j⟩:=FZ f n;exact⟨NX f g i,NU h1,NW h1 j,NV h1⟩
theorem NY {d:aj}(g:Gd d) (k:d.sz<=1048576):nv d:=by
 intro n hn x hx;cases b:dx d n
 ·rw [qF b] at hx; cases hx
 ·obtain⟨h1,j⟩:=u6 b;refine⟨(sr (g.f _ h1) (by rw [j]; exact hn)).i x hx, ?_⟩;have m:=d.bl;have a2:=Sl.cC (f:=ai.sz) h1;have a3:=(aX d.an.l n).1.bl;have a4:=Sl.cC (f:=Z8.sz) hx;have a5:=x.bl;have o:=x.aA.lH;omega
theorem NZ {d:aj}(i:nv d){t:aG}{v x y:ag}{a b:Int}(ht:Rd d t.aa) (hw:t.aK.l.length<=1048576) (e:jY d t v e8=some (x,a)) (f:jY (cc d) t (cG v) e8=some (y,b)):b=a:=by
 have hv:=Nz.cp v;unfold jY at e f;simp only [Ab.on] at e f;rw [zY ht] at f;rw [Ah rfl] at e f;rw [<- hv.kind] at f;have run:∀{x y:ag}{a b:Int},((jw (Z4.mk d e8 true (0:Int) (0:Int)) t v).bind fun g=>some (g.1,g.2.1))=some (x,a)->((jw (Z4.mk (cc d) e8 true (0:Int) (0:Int)) t (cG v)).bind fun g=>some (g.1,g.2.1))=some (y,b)->b=a:=by
  intro x y a b e f;obtain⟨r,f1,e⟩:=aZ e;obtain⟨m,f2,f⟩:=aZ f;cases e; cases f;unfold jw tW at f1 f2;obtain⟨u,j,f1⟩:=aZ f1;obtain⟨o,k,f2⟩:=aZ f2;have h:=(FZ i F0).1 (c:=Z4.mk d e8 true 0 0) (c':=Z4.mk (cc d) e8 true 0 0) ⟨rfl,rfl,rfl,rfl,rfl,rfl,rfl⟩ hv ht hw j k;rw [h.er] at f2;cases h0:decide (u.2.b6=0)
  ·rw [h0] at f1 f2; cases f1; cases f2; rfl
  ·rw [h0] at f1 f2; cases f1; cases f2; rfl
 cases hi:fF d t.aa
 ·rw [hi] at e f;exact run e f
 ·rw [hi] at e f;simp only [aU,if_true,oB,Bool.true_and] at e f;cases hq:(!((!true)||(!decide (v.ar=(7:Int)))))
  ·rw [hq,cond_false] at e;rw [hq,cond_false] at f;exact run e f
  ·rw [hq,cond_true] at e;rw [hq,cond_true] at f;cases e; cases f; rfl
theorem F1 {d:aj}(j:nv d) (p q r:Bs):∀(l:List Z8){s s' z i:Sl Z6},(∀x∈l,Rd d x.aA.aa/\x.aA.aK.l.length<=1048576)->s.l=s'.l->gY d p q r l s=some z->gY (cc d) p q r (l.map bV) s'=some i->z.l=i.l
 | [],s,s',z,i,_,h,e,f=>by
  rw [List.map_nil] at f;rw [gY] at e f;cases e; cases f; exact h
 | x::l,s,s',z,i,hx,h,e,f=>by
  obtain⟨t,v⟩:=hx x (.head _);rw [List.map_cons] at f;rw [gY] at e f;simp only [Ab.on] at e f;obtain⟨u,f1,e⟩:=aZ e;obtain⟨G,f2,f⟩:=aZ f;refine F1 j p q r l (fun y w=>hx y (.tail _ w)) ?_ e f;rw [show (bV x).cT=x.cT from rfl,show (bV x).aA=x.aA from rfl,show (bV x).dD=cG x.dD from rfl,show (bV x).aa=x.aa from rfl] at f2;cases hh:x.cT
  ·rw [hh] at f1 f2; cases f1; cases f2; exact h
  ·rw [hh,Bool.not_true,cond_false] at f1 f2;obtain⟨a,B,f1⟩:=aZ f1;obtain⟨a',a2,f2⟩:=aZ f2;have C:=NZ j (x:=a.1) (a:=a.2) (y:=a'.1) (b:=a'.2) t v B a2;rw [C] at f2;cases h0:decide (a.2=0)
   ·rw [h0,Bool.not_false,cond_true] at f1 f2;obtain⟨b,E,f1⟩:=aZ f1;obtain⟨b',o,f2⟩:=aZ f2;rw [E] at o; obtain rfl:=oJ o;obtain⟨g,g1,f1⟩:=aZ f1;obtain⟨H,g2,f2⟩:=aZ f2;rw [g1] at g2; obtain rfl:=oJ g2;obtain⟨k,F,f1⟩:=aZ f1;obtain⟨k',k2,f2⟩:=aZ f2;rw [F] at k2; obtain rfl:=oJ k2;obtain⟨m,m1,f1⟩:=aZ f1
    obtain⟨m',m2,f2⟩:=aZ f2;cases f1; cases f2;rw [nt m1,nt m2,h]
   ·rw [h0] at f1 f2; cases f1; cases f2; exact h
theorem sw {α:Type}{z:Nat}{s r u:Sl α}(h:aQ z s r=some u) (hu:u.l=[]):s.l=[]/\r.l=[]:=by
 rw [nt h] at hu; exact List.append_eq_nil_iff.1 hu
theorem F2 {d:aj}(g:nv d){a a':Sl Z8}(i:a'.l=a.l.map bV){p q r:Bs}{z f:Sl Z6}(hx:∀x∈a.l,Rd d x.aA.aa/\x.aA.aK.l.length<=1048576) (e:jx d a p q r=some z) (b:jx (cc d) a' p q r=some f):z.l=f.l:=by
 unfold jx at e b;simp only [Ab.on] at e b;obtain⟨u,f1,e⟩:=aZ e;obtain⟨j,f2,b⟩:=aZ b;cases e; cases b;rw [i] at f2;exact F1 g p q r a.l hx rfl f1 f2
theorem F3 {d:aj}(o:nv d) (t:ai):∀(l:List Z7){s s' z j:Sl Z6},(∀f∈l,∀x∈f.aF.l,Rd d x.aA.aa/\x.aA.aK.l.length<=1048576)->s.l=s'.l->fV d t l s=some z->fV (cc d) (bD t) (l.map cK) s'=some j->z.l=j.l
 | [],s,s',z,j,_,h,e,i=>by
  rw [List.map_nil] at i;rw [fV] at e i;cases e; cases i; exact h
 | f::l,s,s',z,j,p,h,e,i=>by
  rw [List.map_cons] at i;rw [fV] at e i;simp only [Ab.on] at e i;rw [show (bD t).aa=t.aa from rfl,show (cK f).aa=f.aa from rfl] at i;obtain⟨b,r,e⟩:=aZ e;obtain⟨b',q,i⟩:=aZ i;rw [r] at q; obtain rfl:=oJ q;obtain⟨g,g1,e⟩:=aZ e;obtain⟨w,g2,i⟩:=aZ i;rw [g1] at g2; obtain rfl:=oJ g2;obtain⟨k,u,e⟩:=aZ e
  obtain⟨k',k2,i⟩:=aZ i;obtain⟨m,m1,e⟩:=aZ e;obtain⟨m',m2,i⟩:=aZ i;refine F3 o t l (fun y v=>p y (.tail _ v)) ?_ e i;rw [nt m1,nt m2,h,F2 o rfl (p f (.head _)) u k2]
theorem Aj {d:aj}{t:ai}:∀(l:List Z7){s z:Sl Z6},fV d t l s=some z->z.l=[]->s.l=[]
 | [],s,z,e,h=>by rw [fV] at e; cases e; exact h
 | f::l,s,z,e,h=>by
  rw [fV] at e;simp only [Ab.on] at e;obtain⟨b,i,e⟩:=aZ e;obtain⟨g,g1,e⟩:=aZ e;obtain⟨k,j,e⟩:=aZ e;obtain⟨m,m1,e⟩:=aZ e;exact(sw m1 (Aj l e h)).1
theorem F4 {d:aj}:∀(l:List ai){s z:Sl Z6},fz d l s=some z->z.l=[]->s.l=[]
 | [],s,z,e,h=>by rw [fz] at e; cases e; exact h
 | t::l,s,z,e,h=>by
  rw [fz] at e;simp only [Ab.on] at e;obtain⟨b,f,e⟩:=aZ e;obtain⟨k,g,e⟩:=aZ e;obtain⟨m,m1,e⟩:=aZ e;exact Aj _ f (sw m1 (F4 l e h)).1
theorem Ak {d:aj}(i:nv d) (o:∀t∈d.an.l,Rd d t.aa->(∀f∈t.ay.l,∀x∈f.aF.l,Rd d x.aA.aa/\x.aA.aK.l.length<=1048576)/\∀x∈t.aM.l,Rd d x.aA.aa/\x.aA.aK.l.length<=1048576):∀(l:List ai){s s' z j:Sl Z6},(∀t∈l,t∈d.an.l)->s'.l=[]->fz d l s=some z->z.l=[]->fz (cc d) ((l.filter fun t=>kg d t.aa).map bD) s'=some j->j.l=[]
 | [],s,s',z,j,_,h,_,_,g=>by
  rw [List.filter_nil,List.map_nil,fz] at g;cases g; exact h
 | t::l,s,s',z,j,hm,h,e,p,g=>by
  rw [fz] at e;simp only [Ab.on] at e;obtain⟨b,r,e⟩:=aZ e;obtain⟨k,v,e⟩:=aZ e;obtain⟨m,m1,e⟩:=aZ e;obtain⟨u,w⟩:=sw m1 (F4 l e p);have B:=Aj _ r u;rw [List.filter_cons] at g;cases hq:kg d t.aa
  ·rw [hq,if_neg (by simp)] at g;exact Ak i o l (fun y q=>hm y (.tail _ q)) h e p g
  ·rw [hq,if_pos rfl,List.map_cons,fz] at g;simp only [Ab.on] at g;obtain⟨c1,c2⟩:=o t (hm t (.head _)) (nc.1 hq);obtain⟨b',C,g⟩:=aZ g;obtain⟨k',k2,g⟩:=aZ g;obtain⟨m',m2,g⟩:=aZ g;have E:=F3 i t t.ay.l c1 (by rw [B,h]) r C;have F:=F2 i (a:=t.aM) (a':=(bD t).aM) rfl c2 v k2;exact Ak i o l (fun y q=>hm y (.tail _ q)) (by rw [nt m2,<- E,<- F,u,w]; rfl) e p g
theorem ga (b:Bool) (e:Int) (a:Bs):(bI b e a).length<=1:=by unfold bI; cases b<;>simp
theorem F5 (d:aj) (n a:Bs) (k:Int):(g_ d n a k).length<=1:=by
 unfold g_;cases (!(aX d.an.l n).2&&!dh n)
 ·rw [cond_false];cases decide (k=(0:Int))
  ·exact ga _ _ _
  ·exact ga _ _ _
 ·rw [cond_true]; exact ga _ _ _
theorem Al (d:aj) (a b:Bs):∀(l:List Z8) (s:List Bs),(fH d a b s l).length<=3*l.length
 | [],_=>Nat.zero_le _
 | x::l,s=>by
  have h1:=Al d a b l (s++[x.aa]);have f:=F5 d x.aA.aa (a++x.aa++b) 1;have g:=ga (!eD x.aa) 6 (a++x.aa++b);have i:=ga (s.contains x.aa) 7 (a++x.aa++b);rw [fH];simp only [List.length_append,List.length_cons];omega
theorem F6 (d:aj) (b:Bs):∀(l:List Z7) (s:List Bs),(iQ d b s l).length<=3*(l.map Z7.sz).sum
 | [],_=>Nat.zero_le _
 | x::l,s=>by
  have h1:=F6 d b l (s++[x.aa]);have g:=F5 d x.aA.aa (b++[46]++x.aa) 0;have i:=ga (!eD x.aa) 6 (b++[46]++x.aa);have j:=ga (s.contains x.aa) 7 (b++[46]++x.aa);have k:=Al d (b++[46]++x.aa++[40]) [41] x.aF.l [];have m:=x.bl;have o:=Sl.ck (f:=Z8.sz) x.aF Z8.pos;have p:=Bs.fO x.aa;rw [iQ];simp only [List.length_append,List.map_cons,List.sum_cons]
  omega
theorem F7 (b:Bs):∀(l:List Z9) (s:List Bs),(hG b s l).length<=2*l.length
 | [],_=>Nat.zero_le _
 | x::l,s=>by
  have h1:=F7 b l (s++[x.aa]);have f:=ga (sg x.aa||!eD x.aa) 6 (b++[46]++x.aa);have g:=ga (s.contains x.aa) 7 (b++[46]++x.aa);rw [hG];simp only [List.length_append,List.length_cons];omega
theorem N0 (d:aj) (t:ai):(j9 d t).length<=3*t.sz:=by
 have h1:=t.bl;have b:Sl.sz Z7.sz t.ay=1+(t.ay.l.map Z7.sz).sum:=rfl;have g:=Sl.ck (f:=Z8.sz) t.aM Z8.pos;have i:=Sl.ck (f:=Z9.sz) t.aJ Z9.pos;have f1:=F6 d t.aa t.ay.l [];have f2:=F7 t.aa t.aJ.l [];have f3:=Al d (t.aa++[46]) [] t.aM.l [];unfold j9;cases (bif (decide (t.ar=(1:Int))) then((decide (t.ar=(1:Int)))) else((decide (t.ar=(2:Int)))))
 ·rw [cond_false];cases decide (t.ar=(4:Int))
  ·rw [cond_false];cases decide (t.ar=(5:Int))
   ·exact Nat.zero_le _
   ·rw [cond_true]; omega
  ·rw [cond_true]; omega
 ·rw [cond_true]; omega
theorem N1 (d:aj) (s:List Bs) (t:ai):(jH d s t).length<=5:=by
 unfold jH;have h1:=ga (!eD t.aa) 6 t.aa;have b:=ga (s.contains t.aa||dh t.aa) 7 t.aa;have f:=ga (qD t) 8 t.aa;have g:=ga (qE t) 9 t.aa;have i:=ga (decide (t.ar=(5:Int))&&gZ d t) 5 t.aa;simp only [List.length_append];omega
theorem F8 (d:aj):∀(l:List ai) (s:List Bs),(fW d s l).length<=5*l.length+3*(l.map ai.sz).sum
 | [],_=>Nat.zero_le _
 | t::l,s=>by
  have h1:=F8 d l (s++[t.aa]);have b:=N1 d s t;have f:=N0 d t;rw [fW];simp only [List.length_append,List.length_cons,List.map_cons,List.sum_cons];omega
theorem F9 {d:aj}(h:d.sz<=1048576) (b:Bool):(fZ d b).length<=9000000:=by
 have h1:=d.bl;have g:Sl.sz ai.sz d.an=1+(d.an.l.map ai.sz).sum:=rfl;have i:=Sl.ck (f:=ai.sz) d.an ai.pos;have j:=F8 d d.an.l [];have k:=ga (b&&!(aX d.an.l ([81,117,101,114,121]:Bs)).2) 30 ([81,117,101,114,121]:Bs);unfold fZ;simp only [List.length_append];omega
theorem N2 {t:aG}(hw:t.wf) (h:t.sz<=1048576):gU t.aK:=⟨(aG.v_ hw).1,by have:=t.lH; omega⟩
theorem vc {d:aj}(hw:d.wf) (o:d.sz<=1048576):∀t∈d.an.l,lR t:=fun t ht=>by
 have p:=d.bl;have a2:=Sl.cC (f:=ai.sz) ht;have a3:=t.bl;have g:=(aj.tE hw).2.2 t ht;have q:Bs.sz t.aa=t.aa.length+1:=rfl;refine⟨by omega,fun f b=>?_,fun m hm=>?_⟩
 ·have a4:=Sl.cC (f:=Z7.sz) b;have a5:=f.bl;have i:=(ai.tD g).2.2 f b;have j:Bs.sz f.aa=f.aa.length+1:=rfl;refine⟨by omega,fun a k=>?_,N2 (Z7.tC i) (by omega)⟩;have r:=Sl.cC (f:=Z8.sz) k;have s:=a.bl;have u:Bs.sz a.aa=a.aa.length+1:=rfl;omega
 ·have a4:=Sl.cC (f:=Z9.sz) hm;have a5:=m.bl;have j:Bs.sz m.aa=m.aa.length+1:=rfl;omega
theorem N3 {d:aj}(hw:d.wf) (k:d.sz<=1048576){x:Sl Z6}(e:iL d=some x) (hx:x.l=[]):∃y,iL (cc d)=some y/\y.l=[]:=by
 have S:=Fb d;have p:=Fc hw;have U:=d.bl;have a2:=Sl.ck (f:=ai.sz) d.an ai.pos;have a3:=(cc d).bl;have a4:=Sl.ck (f:=ai.sz) (cc d).an ai.pos;have q:∀t∈d.an.l,t.sz<=1048576:=fun t ht=>by have:=Sl.cC (f:=ai.sz) ht; omega
 have C:∀t∈(cc d).an.l,t.sz<=1048576:=fun t ht=>by have:=Sl.cC (f:=ai.sz) ht; omega
 obtain⟨r,E⟩:=zw (d:=d) q (by omega) true (F9 k true);unfold iL at e;rw [E,oB] at e;cases hc:decide ((0:Int)<(((fZ d true).length:Nat):Int))
 ·rw [show decide ((0:Int)<((((⟨r,fZ d true⟩:Sl Z6).l.length:Nat)):Int))=false from hc,cond_false] at e;have hn:fZ d true=[]:=by
   have:=of_decide_eq_false hc;exact List.length_eq_zero_iff.1 (by omega)
  obtain⟨f,f1,e⟩:=aZ e;obtain⟨u,F,e⟩:=aZ e;obtain⟨z,m,e⟩:=aZ e;obtain⟨o,o1,e⟩:=aZ e;cases e;obtain⟨h1,G⟩:=sw o1 hx;obtain⟨_,H⟩:=sw F h1;obtain⟨W,I⟩:=Ac (d:=d) (by omega) (vc hw k) (by have:=FG k; unfold nq; omega);rw [I] at f1;obtain rfl:=oJ f1;obtain⟨s,b⟩:=Nn hn;have g:Gd d:=⟨by omega,b,fun t ht f b=>((vc hw k) t ht).2.1 f b |>.2.2⟩
  have v:=NQ g H;have J:=NY g k;obtain⟨K,L⟩:=zw (d:=cc d) C (by omega) true (by rw [s]; exact Nat.zero_le _);obtain⟨n4,M⟩:=Ac (d:=cc d) (by omega) (vc p (by omega)) (by rw [v]; exact Nat.zero_le _);obtain⟨w,j,_⟩:=Eh p (by omega);have B:w.l=[]:=by
   unfold nX at m j;simp only [Ab.on] at m j;obtain⟨X,N,m⟩:=aZ m;obtain⟨w',O,j⟩:=aZ j;cases m; cases j;refine Ak J (fun t ht hr=>?_) d.an.l (fun _ h=>h) rfl N G O;have hk:=sr (b t ht) hr;have Y:=q t ht;have Z:=t.bl;refine⟨fun f b x hx=>⟨hk.f _ (List.mem_flatMap.2 ⟨f,b,.tail _ (List.mem_map.2 ⟨x,hx,rfl⟩)⟩), ?_⟩,fun x hx=>⟨hk.i x hx, ?_⟩⟩
   ·have c1:=Sl.cC (f:=Z7.sz) b;have c2:=f.bl;have P:=Sl.cC (f:=Z8.sz) hx;have Q:=x.bl;have R:=x.aA.lH;omega
   ·have P:=Sl.cC (f:=Z8.sz) hx;have Q:=x.bl;have R:=x.aA.lH;omega
  unfold iL;rw [L,oB,s,show decide ((0:Int)<((((⟨K,[]⟩:Sl Z6).l.length:Nat)):Int))=false from rfl,cond_false,M,oB,v,j,
   fq (by decide) (by simp),oB,oB,fq (by decide) (by simp [B])]
  exact⟨_,rfl,by simp [B]⟩
 ·rw [show decide ((0:Int)<((((⟨r,fZ d true⟩:Sl Z6).l.length:Nat)):Int))=true from hc,cond_true] at e;cases e;have:=oD hc;rw [show fZ d true=[] from hx] at this;simp at this
theorem N4 {d:aj}(hw:d.wf) (b:d.sz<=1048576):∃x,iL d=some x:=by
 have m:=d.bl;have a2:=Sl.ck (f:=ai.sz) d.an ai.pos;have g:∀t∈d.an.l,t.sz<=1048576:=fun t ht=>by have:=Sl.cC (f:=ai.sz) ht; omega
 have c1:=F9 b true;have c2:=FG b;obtain⟨o,i⟩:=zw (d:=d) g (by omega) true c1;obtain⟨p,j⟩:=Ac (d:=d) (by omega) (vc hw b) (by unfold nq; omega);obtain⟨w,k,q⟩:=Eh hw b;unfold iL;rw [i,oB];cases hc:decide ((0:Int)<(((fZ d true).length:Nat):Int))
 ·rw [cond_false,j,oB,BD (by decide) (by show (fZ d true).length+(lQ d).length<=_; omega),oB,k,oB,
   BD (by decide) (by simp only [List.length_append]; omega)]
  exact⟨_,rfl⟩
 ·exact⟨_,rfl⟩
theorem N5 {d:aj}(hw:d.wf) (f:d.sz<=1048576):∃b,p_ d=some b/\(b=true->∃x,iL d=some x/\x.l=[]):=by
 have no:∀g:Prop,∃b,some false=some b/\(b=true->g):=fun _=>⟨false,rfl,fun h=>by cases h⟩;obtain⟨i,j,_⟩:=MG (d:=d) f;obtain⟨k,m⟩:=LW d (by omega);obtain⟨x,o⟩:=N4 hw f;unfold p_;rw [j,oB,m,o];cases i
 case true=>exact no _
 cases k
 case false=>exact no _
 refine⟨decide (((x.l.length:Nat):Int)=(0:Int)),rfl,fun h=>⟨x,rfl, ?_⟩⟩;have:=oD h;exact List.length_eq_zero_iff.1 (by omega)
theorem F_:rS=some true:=by kernel_rfl
theorem N6 {d:aj}(hw:d.wf) (f:d.sz<=1048576):r_ d=some true:=by
 obtain⟨b,e,h⟩:=N5 hw f;unfold r_;rw [e,oB,F_];cases b
 case false=>rfl
 obtain⟨x,f1,f2⟩:=h rfl;obtain⟨y,g1,g2⟩:=N3 hw f f1 f2;obtain⟨r,g,i,j⟩:=Nb f hw;obtain⟨u,k,l⟩:=Nc f hw;rw [g];simp only [Bool.not_true,cond_false,oB,i,j,aU,if_true,g1,g2,k,l,List.length_nil,decide_true,Bool.and_true,F_];rfl
end Go.Proofs
namespace Go.Proofs.YtgkmefkmmafocaaGreatDoor
open Go Go.Ab Go.RowKit Go.ChangeShapes Go.WideShapes Go.ChangeAt
theorem Ga {H:Type}(l:List (DataW H)):Rows.uptoBulkAll l=(l.map Rows.uptoBulk).sum:=by
 induction l with
 | nil=>rfl
 | cons x r b=>simp only [Rows.uptoBulkAll,List.map_cons,List.sum_cons,b]
theorem N7 {H:Type}:q4 (H:=H) Rows.uptoBulk:=by
 refine⟨fun d=>?_,fun b=>by simp [Rows.uptoBulk],fun e s=>by simp only [Rows.uptoBulk,Ga]; omega,fun l=>by simp only [Rows.uptoBulk,Ga]; omega⟩;cases d with
 | lit l=>cases l<;>simp [Rows.uptoBulk]
 | nil=>simp [Rows.uptoBulk]
 | ptr d=>simp [Rows.uptoBulk]
 | slice f spare=>simp [Rows.uptoBulk]
 | agg parts=>simp [Rows.uptoBulk]
 | iface t d=>simp [Rows.uptoBulk]
 | map entries=>simp [Rows.uptoBulk]
 | held h=>simp [Rows.uptoBulk]
theorem own:ownKnob Tryz.prog.godebug=none:=by kernel_rfl
theorem laid:laidOutB Tryz.prog=true:=by kernel_rfl
theorem N8 {H:Type}{l:List (DataW H)}(hk:Rows.uptoSmall H l=true):Rows.uptoBulkAll l<=1048576:=oD hk
theorem N9 (a:aj) (b:a.sz<=1048576) (f:a.wf):@AC bC.on Tryz.prog 4 [.agg a.c] h0 fun r h'=>r=.a (.d (.bool true))/\h'=h0 :=
 Ls (by rw [Lr]; exact N6 f b) h0
end Go.Proofs.YtgkmefkmmafocaaGreatDoor
