import Derived.Test.YtdlobimnfmjonaaGreatDoorV11
import Derived.Test.YtdlobimnfmjonaaGreatDoorRows
set_option maxRecDepth 100000
set_option maxHeartbeats 2000000
set_option linter.unusedVariables false
set_option linter.unusedSimpArgs false
namespace Go.Proofs
open Go Go.Ab
def iS {α:Type}(a b:Sl α):Prop:=(a.nl=true->a.l=[])/\a.l.Sublist b.l
theorem iS.o1 {α : Type} {l : List α} {b : Sl α} (h : l.Sublist b.l) : iS (aZ l) b := ⟨fun e => List.isEmpty_iff.1 e, h⟩
theorem iS.wf {α:Type}{p:α->Prop}{a b:Sl α}(h:iS a b) (f:Sl.wf p b):Sl.wf p a:=⟨h.1,Nat.le_trans h.2.length_le f.2.1,fun x hx=>f.2.2 x (h.2.subset hx)⟩
theorem Ci {α:Type}{f:α->Nat}{l m:List α}(h:l.Sublist m):(l.map f).sum<=(m.map f).sum:=by
 induction h with
 | slnil=>exact Nat.le_refl _
 | cons a _ b=>rw [List.map_cons,List.sum_cons]; omega
 | cons_cons a _ b=>rw [List.map_cons,List.sum_cons,List.map_cons,List.sum_cons]; omega
theorem iS.sz {α:Type}{f:α->Nat}{a b:Sl α}(h:iS a b):Sl.sz f a<=Sl.sz f b:=by
 have:=Ci (f:=f) h.2;show 1+(a.l.map f).sum<=1+(b.l.map f).sum;omega
structure w6 (u f:Z6):Prop where
 n:u.aa=f.aa
 t:u.ax=f.ax
 d:u.aM=f.aM
 a:iS u.az f.az
structure mR (u t:ag):Prop where
 k:u.ak=t.ak
 n:u.aa=t.aa
 d:u.aM=t.aM
 p:iS u.aH t.aH
 m:iS u.au t.au
 i:iS u.ay t.ay
 f:(u.an.nl=true->u.an.l=[])/\∃l,l.Sublist t.an.l/\aQ w6 u.an.l l
structure ol (t:ag):Prop where
 wf:t.wf
 pS:Ch t
 sz:t.sz<=1048576
 p:t.aH.l.length<=1000000
 ins:lM nB t
 args:∀f∈t.an.l,∀x∈f.az.l,nW nB x
theorem w6.ok {u f:Z6}(h:w6 u f) (hw:f.wf):u.wf/\u.sz<=f.sz:=by
 refine⟨⟨trivial,h.a.wf (Z6.l9 hw),by rw [h.t]; exact Z6.vQ hw,by rw [h.d]; exact Z6.jm hw,trivial⟩, ?_⟩;have h1:=u.bA;have b:=f.bA;rw [h.n,h.t,h.d] at h1;have g:=h.a.sz (f:=Z7.sz);omega
theorem LN {α β:Type}{R:α->β->Prop}{l:List α}{m:List β}(h:aQ R l m):∀x∈l,∃y∈m,R x y:=by
 induction h with
 | nil=>intro x hx; cases hx
 | cons r _ b =>
  intro x hx;rcases List.mem_cons.1 hx with rfl|hx
  ·exact⟨_,.head _,r⟩
  ·obtain⟨y,h1,f⟩:=b x hx; exact⟨y,.tail _ h1,f⟩
theorem mR.nf {u t:ag}(h:mR u t):t.an.l=[]->u.an.l=[]:=fun e=>by
 obtain⟨_,l,hl,g⟩:=h.f;rw [e] at hl;have:=List.sublist_nil.1 hl; subst this;cases hx:u.an.l with
 | nil=>rfl
 | cons a b=>rw [hx] at g; cases g
theorem iS.nil {α:Type}{a b:Sl α}(h:iS a b) (e:b.l=[]):a.l=[]:=by
 have:=h.2; rw [e] at this; exact List.sublist_nil.1 this
theorem mR.ok {u t:ag}(h:mR u t) (ht:ol t):ol u/\u.sz<=t.sz:=by
 obtain⟨f1,l,f2,f3⟩:=h.f;have g:=ag.qh ht.wf;have q:∀x∈u.an.l,∃y∈t.an.l,w6 x y:=fun x hx=>by obtain⟨y,h1,b⟩:=LN f3 x hx; exact⟨y,f2.subset h1,b⟩
 have r:u.sz<=t.sz:=by
  have h1:=u.bA;have b:=t.bA;rw [h.n,h.d] at h1;have a1:=h.p.sz (f:=Bs.sz);have a2:=h.m.sz (f:=Z8.sz);have a3:=h.i.sz (f:=Z7.sz);have a4:Sl.sz Z6.sz u.an<=Sl.sz Z6.sz t.an:=by
   have s:∀{l:List Z6}{m:List Z6},aQ w6 l m->(∀y∈m,y.wf)->(l.map Z6.sz).sum<=(m.map Z6.sz).sum:=fun {l m} v hw=>by
    induction v with
    | nil=>exact Nat.le_refl _
    | cons x _ w=>have:=(x.ok (hw _ (.head _))).2; have:=w fun y j=>hw y (.tail _ j); rw [List.map_cons,List.sum_cons,List.map_cons,List.sum_cons]; omega
   have B:=s f3 fun y j=>g.2.2 y (f2.subset j);have C:=Ci (f:=Z6.sz) f2;show 1+(u.an.l.map Z6.sz).sum<=1+(t.an.l.map Z6.sz).sum;omega
  omega
 have hw:=ht.wf;refine⟨⟨⟨by rw [h.k]; exact ht.wf.1,trivial,h.p.wf (ag.vR hw),by rw [h.d]; exact ag.jm hw,⟨f1, ?_,fun x hx=>?_⟩,h.m.wf (ag.rW hw),h.i.wf (ag.uy hw),trivial⟩, ?_,by have:=ht.sz; omega,Nat.le_trans h.p.2.length_le ht.p,⟨Nat.le_trans h.i.2.length_le ht.ins.1,fun x hx=>ht.ins.2 x (h.i.2.subset hx)⟩,fun f z x hx=>?_⟩,r⟩
 ·rw [f3.length]; exact Nat.le_trans f2.length_le g.2.1
 ·obtain⟨y,h1,b⟩:=q x hx; exact(b.ok (g.2.2 y h1)).1
 ·refine⟨by rw [h.k]; exact ht.pS.k, ?_, ?_, ?_⟩
  ·rw [h.k]; exact ht.pS.f.imp id (fun o=>o.imp id h.nf)
  ·rw [h.k]; exact ht.pS.m.imp id (fun o=>o.imp id h.m.nil)
  ·rw [h.k]; exact ht.pS.i.imp id h.i.nil
 ·obtain⟨y,h1,b⟩:=q f z;exact ht.args y h1 x (b.a.2.subset hx)
theorem ol.wP {t:ag}(h:ol t):Fg t:=by
 have h0:=h.sz;have b:=t.bA;have g:=Sl.dP (f:=Bs.sz) t.aH (fun x=>Bs.lm x);have j:=Sl.dP (f:=Z6.sz) t.an Z6.pos;have k:=Sl.dP (f:=Z8.sz) t.au Z8.pos;have l:=Sl.dP (f:=Z7.sz) t.ay Z7.pos;refine⟨by omega,fun x hx=>?_,by omega,by omega,by omega⟩;have a1:=Sl.dA (f:=Z6.sz) hx;have a2:=x.bA;have a3:=Sl.dP (f:=Z7.sz) x.az Z7.pos;omega
theorem UB (x:Z8):2<=x.sz:=by
 have h:=x.bA;have:Bs.sz x.aa=x.aa.length+1:=rfl;have b:Sl.sz aD.sz x.aM=1+(x.aM.l.map aD.sz).sum:=rfl;omega
theorem UC (x:Z6):2<=x.sz:=by
 have h:=x.bA;have:Bs.sz x.aa=x.aa.length+1:=rfl;have b:Sl.sz aD.sz x.aM=1+(x.aM.l.map aD.sz).sum:=rfl;omega
theorem Fp {α:Type}{f:α->Nat}(h:∀x,2<=f x):∀l:List α,2*l.length<=(l.map f).sum
 | []=>Nat.le_refl _
 | a::l=>by have:=h a; have:=Fp h l; rw [List.map_cons,List.sum_cons,List.length_cons]; omega
theorem ol.w8 {t:ag}(h:ol t):w8 t=true:=by
 have h0:=h.sz;have b:=t.bA;have f:=Fp UC t.an.l;have g:=Fp UB t.au.l;have j:Sl.sz Z6.sz t.an=1+(t.an.l.map Z6.sz).sum:=rfl;have k:Sl.sz Z8.sz t.au=1+(t.au.l.map Z8.sz).sum:=rfl;unfold Go.Proofs.w8;rw [dT (by omega),dT (by omega),dT h.p]; rfl
structure fm (l:List ag):Prop where
 each:∀t∈l,ol t
 len:l.length<=1000
 sum:(l.map ag.sz).sum+1<=1048576
theorem fm.j_ {l:List ag}(h:fm l):j_ l=true:=by
 unfold Go.Proofs.j_;rw [dT (by have:=h.len; omega),List.all_eq_true.2 fun t ht=>(h.each t ht).w8]; rfl
theorem fm.cB {l:List ag}(h:fm l):cB l<=1048576:=by
 have key:∀l:List ag,(∀t∈l,1+fA t<=t.sz)->Go.Proofs.cB l<=(l.map ag.sz).sum:=fun l=>by
  induction l with
  | nil=>intro _; exact Nat.le_refl _
  | cons a l b=>intro h; rw [wZ,List.map_cons,List.sum_cons]; have:=h a (.head _); have:=b fun t ht=>h t (.tail _ ht); omega
 have h1:=key l fun t _=>by
  have j:=t.bA;have k:=Sl.dP (f:=Bs.sz) t.aH (fun x=>Bs.lm x);have m:=Sl.dP (f:=Z8.sz) t.au Z8.pos;have p:=Sl.dP (f:=Z7.sz) t.ay Z7.pos;have q:Sl.sz Z6.sz t.an=1+(t.an.l.map Z6.sz).sum:=rfl;have r:eu t.an.l<=(t.an.l.map Z6.sz).sum:=by
   unfold eu;generalize t.an.l=g;induction g with
   | nil=>exact Nat.le_refl _
   | cons a g b =>
    rw [List.map_cons,List.sum_cons,List.map_cons,List.sum_cons];have a2:=a.bA;have a3:=Sl.dP (f:=Z7.sz) a.az Z7.pos;have:Bs.sz a.aa=a.aa.length+1:=rfl;omega
  have:Bs.sz t.aa=t.aa.length+1:=rfl;unfold fA;omega
 have:=h.sum;omega
theorem fm.sub {l m:List ag}(h:fm l){g:List ag}(k:g.Sublist l) (j:aQ mR m g):fm m:=by
 have h1:∀x∈m,∃y∈l,mR x y:=fun x hx=>by obtain⟨y,h1,q⟩:=LN j x hx; exact⟨y,k.subset h1,q⟩
 refine⟨fun x hx=>by obtain⟨y,a,b⟩:=h1 x hx; exact(b.ok (h.each y a)).1,by rw [j.length]; exact Nat.le_trans k.length_le h.len, ?_⟩;have r:∀{m g:List ag},aQ mR m g->(∀y∈g,ol y)->(m.map ag.sz).sum<=(g.map ag.sz).sum:=fun {m g} j hw=>by
  induction j with
  | nil=>exact Nat.le_refl _
  | cons x _ s=>have:=(x.ok (hw _ (.head _))).2; have:=s fun y p=>hw y (.tail _ p); rw [List.map_cons,List.sum_cons,List.map_cons,List.sum_cons]; omega
 have t:=r j fun y p=>h.each y (k.subset p);have u:=Ci (f:=ag.sz) k;have:=h.sum;omega
theorem tL {α β:Type}{R:β->α->Prop}{f:α->β}:∀{l:List α},(∀x∈l,R (f x) x)->aQ R (l.map f) l
 | [],_=>.nil
 | a::_,h=>.cons (h a (.head _)) (tL fun x hx=>h x (.tail _ hx))
theorem LO (g:Bs->Bool) (l:List Z7):(eP g l).Sublist l:=List.filter_sublist
theorem UD (g:Bs->Bool){t:ag}(hw:t.wf):mR (rT g t) t:=by
 refine⟨rfl,rfl,rfl,iS.o1 List.filter_sublist, ?_,iS.o1 (LO g _),fun e=>List.isEmpty_iff.1 e,_,List.filter_sublist,tL fun f _=>⟨rfl,rfl,rfl,iS.o1 (LO g _)⟩⟩;unfold rT rM;dsimp only;cases decide (t.ak=(3:Int))
 ·exact⟨(ag.rW hw).1,List.Sublist.refl _⟩
 ·exact iS.o1 List.filter_sublist
theorem LP (g:Bs->Bool){s:Sl Z7}(h:s.nl=true->s.l=[]):iS (gF g s) s:=by
 refine⟨fun e=>?_,List.filter_sublist⟩;show s.l.filter _=[];rw [h e]; rfl
theorem UE (g:Bs->Bool){t:ag}(hw:t.wf):mR (jw g t false) t:=by
 refine⟨rfl,rfl,rfl,⟨fun e=>?_,List.filter_sublist⟩, ?_,LP g (ag.uy hw).1,fun e=>List.isEmpty_iff.1 e,_,List.filter_sublist (p:=lQ g), ?_⟩
 ·show t.aH.l.filter _=[];rw [(ag.vR hw).1 e]; rfl
 ·unfold jw tI;dsimp only;cases decide (t.ak=(3:Int))
  ·exact⟨(ag.rW hw).1,List.Sublist.refl _⟩
  ·refine⟨fun e=>?_,List.filter_sublist⟩;show t.au.l.filter _=[];rw [(ag.rW hw).1 e]; rfl
 ·show aQ w6 (gG g t.an.l false).1 _;rw [wX];exact tL fun f b=>⟨rfl,rfl,rfl,LP g (Z6.l9 ((ag.qh hw).2.2 f (List.mem_filter.1 b).1)).1⟩
noncomputable def rR (l:List ag):List ag:=(l.filter (iI (cL l))).map (rT (cL l))
theorem fm.rR {l:List ag}(h:fm l):fm (rR l):=h.sub List.filter_sublist (tL fun t ht=>UD _ (h.each t (List.mem_filter.1 ht).1).wf)
theorem fm.nR {l:List ag}(h:fm l):fm (gW l).1:=by
 unfold gW;rw [Cg];exact h.sub List.filter_sublist (tL fun t ht=>UE _ (h.each t (List.mem_filter.1 ht).1).wf)
theorem Cj {α:Type}{p:α->Bool}{l:List α}(h:(l.filter p).length=l.length):l.filter p=l:=(List.filter_sublist (p:=p) (l:=l)).eq_of_length h
theorem LQ (g:Bs->Bool):∀l:List Z6,eu (d_ g l)<=eu l/\(eu (d_ g l)=eu l->(d_ g l).map cA=l.map cA)
 | []=>⟨Nat.le_refl _,fun _=>rfl⟩
 | f::l=>by
  obtain⟨i1,i2⟩:=LQ g l;have hc:∀(f:Z6) l,eu (f::l)=1+f.az.l.length+eu l:=fun f l=>by unfold eu; rw [List.map_cons,List.sum_cons]
  have hu:(eP g f.az.l).length<=f.az.l.length:=List.length_filter_le _ _;have e:d_ g (f::l)=if lQ g f=true then rF g f::d_ g l else d_ g l:=by unfold d_; rw [List.filter_cons]; split<;>rfl
  rw [e]
  split
  ·rw [hc,hc,show (rF g f).az.l=eP g f.az.l from rfl];refine⟨by omega,fun h=>?_⟩;rw [List.map_cons,List.map_cons,i2 (by omega)];have b:eP g f.az.l=f.az.l:=Cj (by show (eP g f.az.l).length=_; omega)
   congr 1
   unfold rF cA;dsimp only [aZ];rw [b]
  ·rw [hc]; exact⟨by omega,fun h=>by omega⟩
theorem UF (g:Bs->Bool) (t:ag):fA (rN g t)<=fA t/\(fA (rN g t)=fA t->rN g t=bh t):=by
 unfold rN;rw [LM];obtain⟨i1,i2⟩:=LQ g t.an.l;have hu:(eP g t.ay.l).length<=t.ay.l.length:=List.length_filter_le _ _;have q:(t.aH.l.filter fun x=>!g x).length<=t.aH.l.length:=List.length_filter_le _ _;have hm:=LJ g t;have f:fA t=eu t.an.l+t.au.l.length+t.ay.l.length+t.aH.l.length:=rfl;have j:fA (rT g t)=eu (d_ g t.an.l)+(rM g t).length+(eP g t.ay.l).length+(t.aH.l.filter fun x=>!g x).length:=by
  unfold fA rT; dsimp only; rw [Ce]; rfl
 rw [f,j];refine⟨by omega,fun h=>?_⟩;have k:(t.aH.l.filter fun x=>!g x)=t.aH.l:=Cj (by omega);have m:eP g t.ay.l=t.ay.l:=Cj (by show (eP g t.ay.l).length=_; omega);have p:rM g t=t.au.l:=by
  have b:(rM g t).length=t.au.l.length:=by omega
  unfold rM at b ⊢;cases c:decide (t.ak=(3:Int))
  ·rfl
  ·rw [c,cond_true] at b; rw [cond_true]; exact Cj b
 unfold bh rT;dsimp only;rw [Ce,p,k,show (aZ (d_ g t.an.l)).l=d_ g t.an.l from rfl,i2 (by omega),show (aZ (eP g t.ay.l)).l=eP g t.ay.l from rfl,m];rfl
theorem LR (g:Bs->Bool):∀l:List ag,cB ((l.filter (iI g)).map (rN g))<=cB l/\(cB ((l.filter (iI g)).map (rN g))=cB l->(l.filter (iI g)).map (rN g)=l.map bh)
 | []=>⟨Nat.le_refl _,fun _=>rfl⟩
 | t::l=>by
  obtain⟨i1,i2⟩:=LR g l;obtain⟨f,b⟩:=UF g t;rw [List.filter_cons]
  split
  ·rw [List.map_cons,wZ,wZ,List.map_cons];exact⟨by omega,fun h=>by rw [i2 (by omega),b (by omega)]⟩
  ·rw [wZ]; exact⟨by omega,fun h=>by omega⟩
theorem LS {n:List ag}(hn:n.map bh=n) (h:¬cB (rd n)<cB n):rd n=n:=by
 obtain⟨h1,b⟩:=LR (cL n) n;unfold rd at h ⊢;rw [b (by omega),hn]
inductive tM:List ag->List ag->Prop where
 | stop {n:List ag}(h:¬cB (rd n)<cB n):tM n n
 | step {n r:List ag}(h:cB (rd n)<cB n) (t:tM (rd n) r):tM n r
theorem tM.UG {n r f:List ag}(h:tM n r) (h':tM n f):r=f:=by
 induction h with
 | stop h =>
  cases h' with
  | stop _=>rfl
  | step b _=>exact absurd b h
 | step h _ g =>
  cases h' with
  | stop b=>exact absurd h b
  | step _ t=>exact g t
theorem UH:∀(c:Nat) (l:List ag) (m:Nat),cB l<=c->c<m->fm l->∃P,q9 m l=some P/\tM (l.map bh) (P.map bh)/\fm P:=by
 intro c;induction c with
 | zero =>
  intro l m h1 f hk;obtain⟨m,rfl⟩:∃k,m=k+1:=⟨m-1,by omega⟩;have hr:=LL (l:=l) rfl fun t ht=>(hk.each t ht).pS;have b:(gW l).2=false:=by rw [Fo]; exact dF (by omega)
  refine⟨(gW l).1,by rw [q9,hk.j_,cond_true,b]; rfl, ?_,hk.nR⟩;have hn:¬cB (rd (l.map bh))<cB (l.map bh):=by rw [q8]; omega
  rw [hr,LS (gV Cd l) hn];exact .stop hn
 | succ c g =>
  intro l m h1 f hk;obtain⟨m,rfl⟩:∃k,m=k+1:=⟨m-1,by omega⟩;have hr:=LL (l:=l) rfl fun t ht=>(hk.each t ht).pS;have hc:cB (rd (l.map bh))=cB (gW l).1:=by rw [<- hr,q8]
  by_cases q:cB (gW l).1<cB l
  ·obtain⟨P,j,p,r⟩:=g (gW l).1 m (by omega) (by omega) hk.nR;refine⟨P,by rw [q9,hk.j_,cond_true,Fo,dT q,cond_true]; exact j,.step (by rw [hc,q8]; exact q) (by rw [<- hr]; exact p),r⟩
  ·have b:(gW l).2=false:=by rw [Fo]; exact dF q
   refine⟨(gW l).1,by rw [q9,hk.j_,cond_true,b]; rfl, ?_,hk.nR⟩;have hn:¬cB (rd (l.map bh))<cB (l.map bh):=by rw [hc,q8]; exact q
   rw [hr,LS (gV Cd l) hn];exact .stop hn
theorem UI:∀(c:Nat) (l:List ag) (m:Nat),cB l<=c->c<m->fm l->∃R,q_ m (ai.mk (aZ l)) (ai.mk (aZ (rR l)))=some (ai.mk (aZ R))/\tM (l.map bh) (R.map bh)/\fm R:=by
 intro c;induction c with
 | zero =>
  intro l m h1 f hk;obtain⟨m,rfl⟩:∃k,m=k+1:=⟨m-1,by omega⟩;have hr:=LF (l:=l) rfl;have hc:cB (rd (l.map bh))=cB (rR l):=by rw [<- hr,q8]; rfl
  have g:=hk.cB;have j:=hk.rR.cB;have hq:¬((cB (rR l):Nat):Int)<((cB l:Nat):Int):=by omega
  refine⟨l, ?_,.stop (by rw [hc,q8]; omega),hk⟩;rw [q_,Ck,Ck];unfold aZ;rw [Cc (by omega),Cc (by omega),oB,oB,dF hq]; rfl
 | succ c p =>
  intro l m h1 f hk;obtain⟨m,rfl⟩:∃k,m=k+1:=⟨m-1,by omega⟩;have hr:=LF (l:=l) rfl;have hc:cB (rd (l.map bh))=cB (rR l):=by rw [<- hr,q8]; rfl
  have g:=hk.cB;have j:=hk.rR.cB;have b:q_ (m+1) (ai.mk (aZ l)) (ai.mk (aZ (rR l)))=bif decide (((cB (rR l):Nat):Int)<((cB l:Nat):Int)) then q_ m (ai.mk (aZ (rR l))) (ai.mk (aZ (rR (rR l)))) else some (ai.mk (aZ l)):=by
   rw [q_,Ck,Ck,LU];unfold aZ;rw [Cc (by omega),Cc (by omega),oB,oB,Lu (fun t ht=>(hk.rR.each t ht).wP) (by have:=hk.rR.len; omega),oB]; rfl
  by_cases q:cB (rR l)<cB l
  ·obtain⟨R,r,s,u⟩:=p (rR l) m (by omega) (by omega) hk.rR;refine⟨R,by rw [b,dT (by omega),cond_true]; exact r,.step (by rw [hc,q8]; exact q) (by rw [<- hr]; exact s),u⟩
  ·exact⟨l,by rw [b,dF (by omega)]; rfl,.stop (by rw [hc,q8]; exact q),hk⟩
theorem rf {α:Type}{l r:List α}{i:Nat}{x:α}(h:l.drop i=x::r):l.drop (i+1)=r/\l[i]?=some x:=by
 refine⟨by rw [<- List.drop_drop,h]; rfl, ?_⟩;have:=congrArg List.head? h;rw [List.head?_drop] at this;exact this
theorem Fq (a:Int):uB a a=some 0:=by
 rw [QC]; unfold A9;rw [dF (by omega),cond_false]; rfl
theorem LV:∀x:Bs,Op.bytesLess x x=false
 | []=>by simp [Op.bytesLess]
 | a::x=>by rw [Op.bytesLess,LV x]; simp
theorem LW (a:Bs):v_ a a=some 0:=by
 rw [QD]; unfold A_;rw [LV,cond_false,Bool.false_or,beq_iff_eq.mpr rfl]; rfl
theorem LX {w v:Z9}(h:cK w=cK v):w.ak=v.ak/\w.bz=v.bz/\w.br=v.br/\w.aG.l.map cK=v.aG.l.map cK/\w.aW=v.aW:=by
 rw [qR w,qR v] at h
 injection h with h1 b f k g j
 exact⟨h1,b,f,g,j⟩
theorem UJ {w v:Z9}(h:w.aW=v.aW) (i:Nat):∃s,qp w (i:Int)=some s/\qp v (i:Int)=some s:=by
 rw [show qp w (i:Int)=qp v (i:Int) from by rw [D1,D1]; unfold yG; rw [h]];rw [D1]; unfold yG dh;by_cases h:i<v.aW.l.length
 ·rw [dT (by omega),cond_true,if_pos (by omega),show (i:Int).toNat=i from by omega,List.getElem?_eq_getElem h];exact⟨_,rfl,rfl⟩
 ·rw [dF (by omega),cond_false];exact⟨_,rfl,rfl⟩
theorem LY {w v:Z9}(he:cK w=cK v){k:Z9->Z9->Option Int}(hk:∀y,∀x∈v.aG.l,cK y=cK x->k y x=some 0) (hl:v.aG.l.length<=1048576):∀n j:Nat,j<=v.aG.l.length->v.aG.l.length<j+n->sg w v k n 0 (j:Int)=some 0
 | 0,j,_,h=>by omega
 | n+1,j,h1,m=>by
  obtain⟨_,_,_,hi,b⟩:=LX he;have hlen:w.aG.l.length=v.aG.l.length:=by have:=congrArg List.length hi; rwa [List.length_map,List.length_map] at this
  rw [sg,show decide ((0:Int)=0)=true from rfl,cond_true,hlen,Bool.or_self];by_cases h:j<v.aG.l.length
  ·obtain⟨s,f,g⟩:=UJ b j;have hx:cK w.aG.l[j]=cK v.aG.l[j]:=by
    have:=congrArg (fun l=>l[j]?) hi;simp only [List.getElem?_map,List.getElem?_eq_getElem h,List.getElem?_eq_getElem (show j<w.aG.l.length by omega),Option.map_some,Option.some.injEq] at this;exact this
   rw [dF (by omega),cond_false,f,oB,g,oB,LW,oB,show decide ((0:Int)=0)=true from rfl,cond_true];unfold dh;rw [if_pos (by omega),if_pos (by omega),show (j:Int).toNat=j from by omega,List.getElem?_eq_getElem h,List.getElem?_eq_getElem (show j<w.aG.l.length by omega),oB,oB,hk _ _ (List.getElem_mem h) hx,oB]
   unfold yH;rw [fQ (by omega),oB];exact LY he hk hl n (j+1) (by omega) (by omega)
  ·rw [dT (by omega),cond_true,Fq]; rfl
theorem LZ:∀(n:Nat) (w v:Z9),cK w=cK v->v.sz<n->v.sz<=1048576->me n w v=some 0
 | 0,_,_,_,h,_=>by omega
 | n+1,w,v,he,h,m=>by
  have p:=v.bA;have hlen:v.aG.l.length<=1048576:=by have:=Sl.dP (f:=Z9.sz) v.aG (fun x=>x.pos); omega
  obtain⟨b,g,j,_⟩:=LX he;rw [me,b,g,Fq,oB,show decide ((0:Int)=0)=true from rfl,cond_true,Fq,oB];unfold yJ;rw [show decide ((0:Int)=0)=true from rfl,cond_true,j,LW,oB];unfold yI;exact LY he (fun y x hx k=>LZ n y x k (by have:=Z9.mg hx; omega) (by have:=Z9.mg hx; omega)) hlen F0 0 (by omega) (by rw [gz]; omega)
theorem L0 {w v:Z9}(he:cK w=cK v) (b:v.sz<=1048576):we w v=some true:=by
 unfold we D4;rw [LZ F0 w v he (by rw [gz]; omega) b]; rfl
theorem w9 {α β:Type}{f:α->β}{a:α}{l r:List α}(h:r.map f=(a::l).map f):∃b m,r=b::m/\f b=f a/\m.map f=l.map f:=by
 cases r with
 | nil=>cases h
 | cons b m=>injection h with h1 g; exact⟨b,m,rfl,h1,g⟩
theorem w_ {α β:Type}{f:α->β}{r:List α}(h:r.map f=([]:List α).map f):r=[]:=List.map_eq_nil_iff.1 h
theorem xa {α β:Type}{f:α->β}{r l:List α}(h:r.map f=l.map f):((r.length:Nat):Int)=((l.length:Nat):Int):=by have:=congrArg List.length h; rw [List.length_map,List.length_map] at this; rw [this]
theorem pU {α:Type}{l m:List α}(h:aZ l=aZ m):l=m:=congrArg Sl.l h
theorem UK {y x:bU}(h:j7 y=j7 x):y.aa=x.aa/\cK y.ir=cK x.ir:=by injection h with h1 b; exact⟨h1,b⟩
theorem UL {y x:aD}(h:eX y=eX x):y.aa=x.aa/\y.az.l.map j7=x.az.l.map j7:=by injection h with h1 b; exact⟨h1,pU b⟩
theorem UM {y x:Z7}(h:b8 y=b8 x):y.aa=x.aa/\y.ax=x.ax/\y.b_=x.b_/\cK y.dm=cK x.dm/\y.aM.l.map eX=x.aM.l.map eX:=by
 injection h with h1 b f g j; exact⟨h1,b,f,g,pU j⟩
theorem UN {y x:Z6}(h:cA y=cA x):y.aa=x.aa/\y.az.l.map b8=x.az.l.map b8/\y.ax=x.ax/\y.aM.l.map eX=x.aM.l.map eX:=by
 injection h with h1 b f g; exact⟨h1,pU b,f,pU g⟩
theorem UO {y x:Z8}(h:eF y=eF x):y.aa=x.aa/\y.aM.l.map eX=x.aM.l.map eX:=by injection h with h1 b; exact⟨h1,pU b⟩
theorem UP {y x:ag}(h:bh y=bh x):y.ak=x.ak/\y.aa=x.aa/\y.aH.l=x.aH.l/\y.aM.l.map eX=x.aM.l.map eX/\y.an.l.map cA=x.an.l.map cA/\y.au.l.map eF=x.au.l.map eF/\y.ay.l.map b8=x.ay.l.map b8:=by
 injection h with h1 b f g j k m; exact⟨h1,b,pU f,pU g,pU j,pU k,pU m⟩
theorem L3 {y x:aD}(hx:∀a∈x.az.l,a.sz<=1048576){a1:Sl aD}{j:Nat}(f:a1.l[j]?=some x):∀(l r:List bU) (i:Nat),r.map j7=l.map j7->x.az.l.drop i=l->y.az.l.drop i=r->uC a1 j y r i=some (Sum.inl ())
 | [],r,_,hm,_,_=>by rw [w_ hm]; rfl
 | a::l,r,i,hm,h,h'=>by
  obtain⟨b,m,rfl,k,p⟩:=w9 hm;obtain⟨h1,g⟩:=rf h;obtain⟨q,e⟩:=rf h';have v:=hx a (List.mem_of_getElem? g);have w:=a.bA;obtain⟨s,t⟩:=UK k;rw [uC];simp only [Ab.on];have u:(b.aa==a.aa)=true:=beq_iff_eq.2 s;rw [f,oB,g,oB];simp only [u,Bool.not_true,Bool.not_false,aY,if_true,cond_true,e,f,g,oB];rw [L0 t (by omega),oB]
  exact L3 hx f l m (i+1) p h1 q
theorem L4 {s:Sl aD}(g:∀x∈s.l,x.sz<=1048576):∀(l r:List aD) (j:Nat),r.map eX=l.map eX->s.l.drop j=l->uD s r j=some (Sum.inl ())
 | [],r,_,hm,_=>by rw [w_ hm]; rfl
 | x::l,r,j,hm,h=>by
  obtain⟨y,m,rfl,p,q⟩:=w9 hm;obtain⟨h1,b⟩:=rf h;have w:=g x (List.mem_of_getElem? b);have z:=x.bA;obtain⟨t,k⟩:=UL p;rw [uD];simp only [Ab.on];have u:(y.aa==x.aa)=true:=beq_iff_eq.2 t;have el:=xa k;rw [b,oB];simp only [u,Bool.not_true,Bool.not_false,aY,if_true,cond_true,b,oB,el,decide_true,Bool.or_self,cond_false]
  rw [L3 (y:=y) (fun a v=>by have:=Sl.dA (f:=bU.sz) v; omega) b x.az.l y.az.l 0 k rfl rfl,oB];exact L4 g l m (j+1) q h1
theorem Cl {r s:Sl aD}(he:r.l.map eX=s.l.map eX) (h:Sl.sz aD.sz s<=1048576):sj r s=some true:=by
 unfold sj;rw [xa he,dT rfl,Bool.not_true,cond_false,L4 (fun x hx=>by have:=Sl.dA (f:=aD.sz) hx; omega) s.l r.l 0 he rfl]; rfl
theorem L5 (a:Sl Int):∀(l:List Int) (i:Nat),a.l.drop i=l->oQ a l i=some (Sum.inl ())
 | [],_,_=>rfl
 | x::l,i,h=>by
  obtain⟨h1,b⟩:=rf h;rw [oQ];simp only [Ab.on];rw [b,oB,dT rfl];exact L5 a l (i+1) h1
theorem L6 (t:aL):qo t t=some true:=by
 unfold qo uA;rw [L5 t.aK t.aK.l 0 rfl,dT rfl,beq_iff_eq.2 rfl]; rfl
theorem L7 {s:Sl Z7}(b:∀x∈s.l,x.sz<=1048576):∀(l r:List Z7) (j:Nat),r.map b8=l.map b8->s.l.drop j=l->sn s r j=some (Sum.inl ())
 | [],r,_,hm,_=>by rw [w_ hm]; rfl
 | x::l,r,j,hm,h=>by
  obtain⟨y,m,rfl,g,k⟩:=w9 hm;obtain⟨h1,f⟩:=rf h;have z:=b x (List.mem_of_getElem? f);have B:=x.bA;obtain⟨p,q,t,n4,u⟩:=UM g;rw [sn];simp only [Ab.on];have v:(y.aa==x.aa)=true:=beq_iff_eq.2 p;have w:(y.b_==x.b_)=true:=beq_iff_eq.2 t;rw [f,oB];simp only [v,w,Bool.not_true,Bool.not_false,aY,if_true,cond_true,Bool.or_self,Bool.or_false]
  rw [q,L6,oB];simp only [Bool.not_true,Bool.not_false,if_true,Bool.or_self,Bool.or_false];rw [L0 n4 (by omega),oB];simp only [Bool.not_true,Bool.not_false,if_true,Bool.or_self,Bool.or_false];rw [Cl u (by omega),oB];exact L7 b l m (j+1) k h1
theorem L8 {r s:Sl Z7}(he:r.l.map b8=s.l.map b8) (h:Sl.sz Z7.sz s<=1048576):sq r s=some true:=by
 unfold sq;rw [xa he,dT rfl,Bool.not_true,cond_false,L7 (fun x hx=>by have:=Sl.dA (f:=Z7.sz) hx; omega) s.l r.l 0 he rfl]; rfl
theorem L9 (a:Sl Bs):∀(l:List Bs) (i:Nat),a.l.drop i=l->tN a l i=some (Sum.inl ())
 | [],_,_=>rfl
 | x::l,i,h=>by
  obtain⟨h1,b⟩:=rf h;rw [tN];simp only [Ab.on];rw [b,oB,beq_iff_eq.2 rfl];exact L9 a l (i+1) h1
theorem UQ {b a:Sl Bs}(h:b.l=a.l):yL b a=some true:=by
 unfold yL;rw [h,dT rfl,Bool.not_true,cond_false,L9 a a.l 0 rfl]; rfl
theorem L_ {t:ag}(b:∀x∈t.an.l,x.sz<=1048576):∀(l r:List Z6) (j:Nat),r.map cA=l.map cA->t.an.l.drop j=l->sr t r j=some (Sum.inl ())
 | [],r,_,hm,_=>by rw [w_ hm]; rfl
 | x::l,r,j,hm,h=>by
  obtain⟨y,m,rfl,g,k⟩:=w9 hm;obtain⟨h1,f⟩:=rf h;have v:=b x (List.mem_of_getElem? f);have w:=x.bA;obtain⟨p,q,s,n4⟩:=UN g;rw [sr];simp only [Ab.on];have u:(y.aa==x.aa)=true:=beq_iff_eq.2 p;rw [f,oB];simp only [u,Bool.not_true,Bool.not_false,aY,if_true,cond_true,Bool.or_self,Bool.or_false];rw [s,L6,oB];simp only [Bool.not_true,Bool.not_false,if_true,Bool.or_self,Bool.or_false]
  rw [Cl n4 (by omega),oB];simp only [Bool.not_true,Bool.not_false,if_true,Bool.or_self,Bool.or_false];rw [L8 q (by omega),oB];exact L_ b l m (j+1) k h1
theorem Ma {t:ag}(f:∀x∈t.au.l,x.sz<=1048576):∀(l r:List Z8) (j:Nat),r.map eF=l.map eF->t.au.l.drop j=l->qt t r j=some (Sum.inl ())
 | [],r,_,hm,_=>by rw [w_ hm]; rfl
 | x::l,r,j,hm,h=>by
  obtain⟨y,m,rfl,g,k⟩:=w9 hm;obtain⟨h1,b⟩:=rf h;have u:=f x (List.mem_of_getElem? b);have v:=x.bA;obtain⟨p,q⟩:=UO g;rw [qt];simp only [Ab.on];have s:(y.aa==x.aa)=true:=beq_iff_eq.2 p;rw [b,oB];simp only [s,Bool.not_true,Bool.not_false,aY,if_true,cond_true,Bool.or_self,Bool.or_false,b,oB];rw [Cl q (by omega),oB]
  exact Ma f l m (j+1) k h1
theorem UR {u t:ag}(he:bh u=bh t) (s:t.sz<=1048576):yK u t=some true:=by
 have v:=t.bA;obtain⟨j,k,m,n4,b,g,p⟩:=UP he;unfold yK;have q:decide (u.ak=t.ak)=true:=dT j;have r:(u.aa==t.aa)=true:=beq_iff_eq.2 k;simp only [q,r,Bool.not_true,Bool.not_false,aY,if_true,Bool.or_self,Bool.or_false];rw [UQ m,oB];simp only [Bool.not_true,Bool.not_false,if_true,Bool.or_self,Bool.or_false];rw [Cl n4 (by omega),oB,xa b,xa g,dT rfl,dT rfl]
 simp only [Bool.not_true,Bool.or_self,cond_false];rw [L_ (fun x hx=>by have:=Sl.dA (f:=Z6.sz) hx; omega) t.an.l u.an.l 0 b rfl,oB];simp only [Ab.on];rw [Ma (fun x hx=>by have:=Sl.dA (f:=Z8.sz) hx; omega) t.au.l u.au.l 0 g rfl,oB];simp only [];rw [L8 p (by omega)]; rfl
theorem Mb {p:ai}(b:∀x∈p.aj.l,x.sz<=1048576):∀(l r:List ag) (j:Nat),r.map bh=l.map bh->p.aj.l.drop j=l->su p r j=some (Sum.inl ())
 | [],r,_,hm,_=>by rw [w_ hm]; rfl
 | x::l,r,j,hm,h=>by
  obtain⟨y,m,rfl,g,k⟩:=w9 hm;obtain⟨h1,f⟩:=rf h;rw [su];simp only [Ab.on];rw [f,oB,UR g (b x (List.mem_of_getElem? f)),oB,Bool.not_true,cond_false];exact Mb b l m (j+1) k h1
theorem Mc {q p:ai}(he:q.aj.l.map bh=p.aj.l.map bh) (b:∀x∈p.aj.l,x.sz<=1048576):yM q p=some true:=by
 unfold yM;rw [xa he,dT rfl,Bool.not_true,cond_false,Mb b p.aj.l q.aj.l 0 he rfl]; rfl
theorem US {t:ag}(h:lq t=some true):Ch t:=by
  unfold lq at h;simp only [Ab.on] at h;rcases fZ h with ⟨_,x5,_,h⟩|⟨_,h⟩<;>rcases gp h with ⟨_,h⟩|⟨_,h⟩;all_goals first
    | (cases h; done)
    | (cases e:nC t.aH.l with
       | inr y=>rw [e] at h; have:=Ea _ _ e; subst this; cases h
       | inl _ =>
         rw [e] at h;simp only at h;rcases gp h with ⟨b,h⟩|⟨_,h⟩
         · obtain⟨f,_,h⟩:=bw h
           simp at h b;exact⟨.inl b,.inl b,.inr (.inr h.1.2),.inr h.2⟩
         · rcases gp h with ⟨b,h⟩|⟨_,h⟩
           · rcases fZ h with ⟨_,x,_,h⟩|⟨_,h⟩
             · simp at h b; exact⟨.inr (.inl b),.inr (.inl b),.inr (.inr h.1.2),.inr h.2⟩
             · simp at h
           · rcases gp h with ⟨b,h⟩|⟨_,h⟩
             · rcases fZ h with ⟨_,x,_,h⟩|⟨_,h⟩
               · simp at h b; exact⟨.inr (.inr (.inl b)),.inr (.inr h.1.1.2),.inl b,.inr h.2⟩
               · simp at h
             · rcases gp h with ⟨b,h⟩|⟨_,h⟩
               · rcases fZ h with ⟨_,x,_,h⟩|⟨_,h⟩
                 · simp at h b; exact⟨.inr (.inr (.inr (.inl b))),.inr (.inr h.1.1.2),.inr (.inl b),.inr h.2⟩
                 · simp at h
               · rcases gp h with ⟨b,h⟩|⟨_,h⟩
                 · rcases fZ h with ⟨_,x,ex,h⟩|⟨_,h⟩
                   · simp at h b; exact⟨.inr (.inr (.inr (.inr b))),.inr (.inr h.1.1.1.2),.inr (.inr h.1.1.2),.inl b⟩
                   · simp at h
                 · cases h)
theorem UT {d:ai}(hr:sJ d=some true) (hw:d.wf) (m:d.sz<=1048576) (hl:d.aj.l.length<=70) (hm:∀x∈d.aj.l,Sm x):fm d.aj.l:=by
  have h0:=d.bA;have q:Sl.sz ag.sz d.aj=1+(d.aj.l.map ag.sz).sum:=rfl;refine⟨fun t ht=>?_,by omega,by omega⟩;have p:=ai.D9 ht;have b:=hw.1.2.2 t ht;have g:=Rq hr t ht;have r:=t.bA;refine⟨b,US g,by omega,by have:=(hm t ht).2.2.1; omega,Tr (Tn g) b (by omega),fun f j x hx=>?_⟩;have s:=Sl.dA (f:=Z6.sz) j;have u:=f.bA;have v:=Sl.dA (f:=Z7.sz) hx
  have k:f.wf:=(ag.qh b).2.2 f j;exact J_ (Tu g f j x hx) ((Z6.l9 k).2.2 x hx) (by omega)
theorem fm.Cm {l:List ag}(h:fm l):iR (ai.mk (aZ l)):=by
  have b:=h.sum;have q:=(ai.mk (aZ l)).bA;have f:Sl.sz ag.sz (ai.mk (aZ l)).aj=1+(l.map ag.sz).sum:=rfl;exact⟨⟨BP (by have:=h.len; unfold cC; omega) fun t ht=>(h.each t ht).wf,trivial⟩,by omega,fun t ht=>(h.each t ht).ins,fun t ht=>(h.each t ht).args⟩
theorem UU (i e:Sl Bs){t:ag}(hw:t.wf):mR (kT i e t) t:=by
  refine⟨rfl,rfl,rfl,⟨(ag.vR hw).1,List.Sublist.refl _⟩, ?_,⟨(ag.uy hw).1,List.Sublist.refl _⟩,fun e=>List.isEmpty_iff.1 e,_,List.filter_sublist (p:=fun f=>okF i e t f.aM), ?_⟩
  · unfold kT kM
    dsimp only;cases decide (t.ak=(4:Int))
    · exact⟨(ag.rW hw).1,List.Sublist.refl _⟩
    · exact iS.o1 List.filter_sublist
  · have:(kT i e t).an.l=((t.an.l.filter fun f=>okF i e t f.aM)).map fun f=>f:=by rw [List.map_id']; rfl
    rw [this];exact tL fun f b=>⟨rfl,rfl,rfl,(Z6.l9 ((ag.qh hw).2.2 f (List.mem_filter.1 b).1)).1,List.Sublist.refl _⟩
theorem Md (i e:Sl Bs) (t:ag):(bif decide (t.ak=(4:Int)) then aZ (kM i e t) else t.au).l=kM i e t:=by
  unfold kM; cases decide (t.ak=(4:Int))<;>rfl
theorem UW (i e:Sl Bs) (t:ag):bh (pT i e t)=bh (kT i e t):=by
  unfold bh pT kT;dsimp only;rw [Md];dsimp only [aZ];rw [gV vb,gV Lx,gV Fi,gV zD]
theorem ol.cp {t:ag}(h:ol t):ol (bh t):=by
  have b:t.an.l=[]->(bh t).an.l=[]:=fun e=>by show t.an.l.map cA=[]; rw [e]; rfl
  have j:t.au.l=[]->(bh t).au.l=[]:=fun e=>by show t.au.l.map eF=[]; rw [e]; rfl
  have q:t.ay.l=[]->(bh t).ay.l=[]:=fun e=>by show t.ay.l.map b8=[]; rw [e]; rfl
  have n4:∀f∈(bh t).an.l,∀x∈f.az.l,nW nB x:=fun f r x hx=>by
    obtain⟨g,hg,rfl⟩:=List.mem_map.1 (show f∈t.an.l.map cA from r);obtain⟨y,s,rfl⟩:=List.mem_map.1 (show x∈g.az.l.map b8 from hx);exact BX (h.args g hg y s)
  exact⟨Ko h.wf,⟨h.pS.k,h.pS.f.imp id (fun o=>o.imp id b),h.pS.m.imp id (fun o=>o.imp id j),h.pS.i.imp id q⟩,by rw [EZ]; exact h.sz,h.p,KY h.ins,n4⟩
theorem UX (i e:Sl Bs){t:ag}(hw:t.wf):mR (pT i e t) (bh (kT i e t)):=by
  refine⟨rfl,rfl,rfl,⟨(ag.vR hw).1,List.Sublist.refl _⟩, ?_,⟨fun e=>List.isEmpty_iff.1 e,List.Sublist.refl _⟩,fun e=>List.isEmpty_iff.1 e,_,List.Sublist.refl _, ?_⟩
  · rw [show (bh (kT i e t)).au=aZ ((kM i e t).map eF) from by unfold bh kT; dsimp only; rw [Md]]
    exact iS.o1 (List.Sublist.refl _)
  · have:(pT i e t).an.l=((zx i e t).map cA).map fun f=>f:=by rw [List.map_id']; rfl
    rw [this];refine tL fun f b=>?_;obtain⟨g,_,rfl⟩:=List.mem_map.1 b;exact⟨rfl,rfl,rfl,fun e=>List.isEmpty_iff.1 e,List.Sublist.refl _⟩
theorem fm.cp {l:List ag}(h:fm l):fm (l.map bh):=by
  refine⟨fun t ht=>?_,by rw [List.length_map]; exact h.len,by rw [zk fun x _=>EZ x]; exact h.sum⟩;obtain⟨u,hu,rfl⟩:=List.mem_map.1 ht;exact(h.each u hu).cp
theorem UY {i e:Sl Bs}{l:List ag}(h:fm l):fm (l.map (kT i e))/\fm (l.map (pT i e))/\(l.map (pT i e)).map bh=(l.map (kT i e)).map bh:=by
  have h1:fm (l.map (kT i e)):=h.sub (List.Sublist.refl _) (tL fun t ht=>UU i e (h.each t ht).wf);refine⟨h1,h1.cp.sub (List.Sublist.refl _) ?_, ?_⟩
  · rw [List.map_map]
    have:∀{m:List ag},(∀t∈m,t.wf)->aQ mR (m.map (pT i e)) (m.map (bh ∘ kT i e)):=fun {m} hm=>by
      induction m with
      | nil=>exact .nil
      | cons a m b=>exact .cons (UX i e (hm a (.head _))) (b fun t ht=>hm t (.tail _ ht))
    exact this fun t ht=>(h.each t ht).wf
  · rw [List.map_map,List.map_map]
    exact List.map_congr_left fun t _=>UW i e t
theorem UZ {d:ai}{i e:Sl Bs}(h:fm d.aj.l):∃P R a b,D6 d i e=some (bif decide ((0:Int)<((a.l.length:Nat):Int)) then(ai.mk Sl.nil,a) else(ai.mk (aZ P),(Sl.nil:Sl Z5))) /\
    yR d i e=some (bif decide ((0:Int)<((b.l.length:Nat):Int)) then(ai.mk Sl.nil,b) else(ai.mk (aZ R),(Sl.nil:Sl Z5)))/\a.l=b.l/\P.map bh=R.map bh/\fm P/\fm R:=by
  have hl:fm (d.aj.l.filter (lP e)):=⟨fun t ht=>h.each t (List.mem_filter.1 ht).1,Nat.le_trans (List.length_filter_le _ _) h.len,by have:=Ci (f:=ag.sz) (List.filter_sublist (p:=lP e) (l:=d.aj.l)); have:=h.sum; omega⟩;obtain⟨hk,g,he⟩:=UY (i:=i) (e:=e) hl;have hx:∀x∈d.aj.l,x.sz<=1048576/\x.wf:=fun x hx=>⟨(h.each x hx).sz,(h.each x hx).wf⟩;have hlen:=h.len;obtain⟨P,r,j,k⟩:=UH _ _ F0 (Nat.le_refl _) (by have:=g.cB; rw [gz]; omega) g
  obtain⟨R,s,u,m⟩:=UI _ _ F0 (Nat.le_refl _) (by have:=hk.cB; rw [gz]; omega) hk;rw [he] at j;have q:=j.UG u;have v:dB (ai.mk (aZ P))=dB (ai.mk (aZ R)):=by
    unfold dB; rw [pI,pI]; show ai.mk (aZ (P.map bh))=ai.mk (aZ (R.map bh)); rw [q]
  obtain⟨a,b,s1,w,y⟩:=K_ k.Cm m.Cm v;refine⟨P,R,a,b, ?_, ?_,y,q,k,m⟩
  · unfold D6 zF
    rw [h.j_,cond_true,Lq _ hx,oB,r,oB,U0];rw [show ai.mk ⟨P.isEmpty,P⟩=ai.mk (aZ P) from rfl,s1,oB];cases decide ((0:Int)<((a.l.length:Nat):Int))<;>rfl
  · unfold yR Me Cn
    have z:zG d i e=some (ai.mk (aZ ((d.aj.l.filter (lP e)).map (kT i e)))):=by
      unfold zG;rw [show ai.zero=ai.mk (aZ []) from rfl,Fc d.aj.l [] hx (by simp; omega)]; rfl
    rw [U1,z,oB,LU];have hq:wW (ai.mk (aZ ((d.aj.l.filter (lP e)).map (kT i e))))=some (ai.mk (aZ (rR ((d.aj.l.filter (lP e)).map (kT i e))))):=Lu (fun t ht=>(hk.each t ht).wP) (by have:=hk.len; omega);rw [hq,oB,s,oB,w,oB];cases decide ((0:Int)<((b.l.length:Nat):Int))<;>rfl
theorem U2 {d:ai}(hw:d.wf) (f:d.sz<=1048576):∃b,yP d=some b/\(b=true->fm d.aj.l):=by
  have no:∀m:Prop,∃b,some false=some b/\(b=true->m):=fun _=>⟨false,rfl,fun h=>by cases h⟩;obtain⟨p,q,g⟩:=TF (d:=d) f;obtain⟨r,j⟩:=Ro d f;unfold yP;rw [q,oB,j];cases p
  case true=>exact no _
  cases r
  case false=>exact no _
  have hk:=UT j hw f (g rfl).1 (g rfl).2;have k:iR d:=⟨hw,f,fun t ht=>(hk.each t ht).ins,fun t ht=>(hk.each t ht).args⟩;obtain⟨_,x,_,s,_⟩:=K_ k k rfl;rw [s];exact⟨decide (((x.l.length:Nat):Int)=(0:Int)),rfl,fun _=>hk⟩
theorem U3 (a b:Sl Z5) (l:List Z5) (i:Nat) (h:l=b.l.drop i):uE b l i=some (Sum.inl ()):=by
  induction l generalizing i with
  | nil=>rfl
  | cons x r f =>
    have h1:b.l[i]?=some x:=by rw [<- List.head?_drop,<- h]; rfl
    have g:r=b.l.drop (i+1):=by rw [<- List.tail_drop,<- h]; rfl
    rw [uE];simp only [on,h1,oB];rw [f (i+1) g];simp
theorem Mf (a b:Sl Z5) (h:a.l=b.l):yN a b=some true:=by
  unfold yN;rw [h,U3 a b b.l 0 rfl];simp [on]
theorem U4:yQ=some true:=by kernel_rfl
theorem U5 {d:ai}{i e:Sl Bs}(hw:d.wf) (f:d.sz<=1048576):yO d i e=some true:=by
  obtain⟨b,g,h⟩:=U2 hw f;unfold yO;rw [g,oB,U4];cases hc:((!b)||(decide ((20:Int)<((i.l.length:Nat):Int))))||(decide ((20:Int)<((e.l.length:Nat):Int)))
  case true=>rfl
  have j:b=true:=by cases b with|true=>rfl|false=>cases hc
  obtain⟨P,R,x,y,f1,f2,f3,f4,f5,f6⟩:=UZ (i:=i) (e:=e) (h j);rw [cond_false,f1,oB,f2,oB,f3];cases decide ((0:Int)<((y.l.length:Nat):Int))
  · simp only [cond_false]
    rw [Mc f4 (fun x hx=>(f6.each x hx).sz),oB];simp only [aY,if_true];rw [Mf _ _ rfl];rfl
  · simp only [cond_true]
    rw [Mc rfl (fun x hx=>by cases hx),oB];simp only [aY,if_true];rw [Mf _ _ f3];rfl
end Go.Proofs
namespace Go.Proofs.YtdlobimnfmjonaaGreatDoor
open Go Go.Ab Go.RowKit Go.ChangeShapes Go.WideShapes Go.ChangeAt
variable {av:bR}
theorem Mg {H:Type}(l:List (DataW H)):Rows.uptoBulkAll l=(l.map Rows.uptoBulk).sum:=by
 induction l with
 | nil=>rfl
 | cons x r b=>simp only [Rows.uptoBulkAll,List.map_cons,List.sum_cons,b]
theorem zH {H:Type}:yq (H:=H) Rows.uptoBulk:=by
 refine⟨fun d=>?_,fun b=>by simp [Rows.uptoBulk],fun e s=>by simp only [Rows.uptoBulk,Mg]; omega,fun l=>by simp only [Rows.uptoBulk,Mg]; omega⟩;cases d with
 | lit l=>cases l<;>simp [Rows.uptoBulk]
 | nil=>simp [Rows.uptoBulk]
 | ptr d=>simp [Rows.uptoBulk]
 | slice f spare=>simp [Rows.uptoBulk]
 | agg parts=>simp [Rows.uptoBulk]
 | iface t d=>simp [Rows.uptoBulk]
 | map entries=>simp [Rows.uptoBulk]
 | held h=>simp [Rows.uptoBulk]
theorem own:ownKnob Tryz.prog.godebug=none:=by kernel_rfl
theorem laid:laidOutB Tryz.prog=true:=by kernel_rfl
theorem U6 {H:Type}{l:List (DataW H)}(hk:Rows.uptoSmall H l=true):Rows.uptoBulkAll l<=1048576:=oD hk
theorem table {W:World}(h:laidMet Tryz.prog Rows.contractFiltersUptoRow.laid W):∃u fr,W.heap[0]?=some (.cells (Lib.pow10Tab.map fun z=>Value.int .u64 z).toArray u fr) :=
 PX (P:=Tryz.prog) (name := "internal/strconv.uint64pow10") (g:=0) (t:=222) (e:=215) (n:=20) (by kernel_rfl) (by kernel_rfl) (by kernel_rfl) (by kernel_rfl) (by kernel_rfl) (by kernel_rfl) h
  (by rw [show (Lib.tabData .u64 Lib.pow10Tab:DataW Unit)=Rows.laid_internal_strconv_uint64pow10 from(by kernel_rfl)]; exact .tail _ (.tail _ (.head _)))
theorem U7 (u:TypeId) (fr:Nat×Nat):iq Tryz.prog (.fix 0 (.cells (Lib.pow10Tab.map fun z=>Value.int .u64 z).toArray u fr)):=.of (by kernel_rfl)
theorem U8 (a:ai) (b c:Sl Bs) (f:a.sz<=1048576) (g:a.wf) (u:TypeId) (fr:Nat×Nat):AC Tryz.prog 3 [.agg a.c,.d (Sl.d 1 aB none b),.d (Sl.d 1 aB none c)] (fw 0 (.cells (Lib.pow10Tab.map fun z=>Value.int .u64 z).toArray u fr)) fun r h'=>r=.a (.d (.bool true))/\h'=fw 0 (.cells (Lib.pow10Tab.map fun z=>Value.int .u64 z).toArray u fr) :=
 QU (by rw [QS]; exact U5 g f) _ (gT:=0) rfl (U7 u fr)
end Go.Proofs.YtdlobimnfmjonaaGreatDoor
