import Derived.Test.YtgkmefkmmafocaaGreatDoorV8
set_option maxRecDepth 100000
set_option maxHeartbeats 2000000
set_option linter.unusedVariables false
set_option linter.unusedSimpArgs false
namespace Go.Proofs
open Go Go.Ab
def dS (d:ak) (n:Bs) (k:Int):Int:=bif !(aT d.aq.l n).2&&!cC n then 8 else bif !(aT d.aq.l n).2||!decide ((aT d.aq.l n).1.an=k) then 9 else 0
def kJ (p n:Bs) (b:Bool):List Z6:=bU b 22 (p++[40]++n++[41])
def jI (p:Bs) (y:Z7) (l:List Z8):List Z6:=l.flatMap fun a=>kJ p a.aa (!(cQ y.aH.l a.aa).2||!ja a.aA (cQ y.aH.l a.aa).1.aA)
def mh (p:Bs) (x:Z7) (l:List Z8):List Z6:=l.flatMap fun b=>kJ p b.aa ((!(cQ x.aH.l b.aa).2&&eB b.aA.aF.l)&&!b.bY)
def kK (d:ak) (t:aj) (x:Z7):List Z6 :=
 bif !(ea t.aB.l x.aa).2 then [Z6.mk 20 (t.aa++[46]++x.aa)] else
  (bU (!jH d (ea t.aB.l x.aa).1.aA x.aA) 10 (t.aa++[46]++x.aa)++(jI (t.aa++[46]++x.aa) (ea t.aB.l x.aa).1 x.aH.l++mh (t.aa++[46]++x.aa) x (ea t.aB.l x.aa).1.aH.l))
def kL (d:ak) (t:aj) (l:List Z7):List Z6:=l.flatMap (kK d t)
def e8 (d:ak) (s:List Bs) (n:Bs) (k:Int):Int:=bif decide (dS d n k=0)&&s.contains n then 7 else dS d n k
def iH (d:ak) (t:aj):List Bs->List Bs->List Z6
 | _,[]=>[]
 | s,n::r=>(bif !decide (e8 d s n 2=0) then [Z6.mk (e8 d s n 2) t.aa] else kL d t (aT d.aq.l n).1.aB.l)++iH d t (s++[n]) r
def jb (d:ak) (t:aj):List Bs->List Z9->List Z6
 | _,[]=>[]
 | s,m::r=>bU (!decide (e8 d s m.aa 1=0)) (e8 d s m.aa 1) (t.aa++[46]++m.aa)++jb d t (s++[m.aa]) r
def kM (d:ak) (t:aj):List Z6:=bif decide (t.an=1) then iH d t [] t.aX.l else bif decide (t.an=3) then jb d t [] t.aG.l else []
def gL (d:ak):List Z6:=d.aq.l.flatMap (kM d)
def oI:Nat:=4000000000000
theorem DG {s r:Sl Z6}(h:s.l.length+r.l.length<=oI):aW 24 s r=some ⟨s.nl&&r.l.isEmpty,s.l++r.l⟩:=by
 unfold oI at h;unfold aW; rw [if_pos]; unfold cS; omega
def FA (o:Option Z0) (c:Z0) (X:List Z6):Prop:=c.dc.l.length+X.length<=oI->∃nl,o=some (Z0.mk c.Fd ⟨nl,c.dc.l++X⟩)
theorem FA.pure (c:Z0):FA (some c) c []:=fun _=>⟨c.dc.nl,by simp⟩
theorem FA.bind {o:Option Z0}{f:Z0->Option Z0}{c:Z0}{X Y:List Z6}(h:FA o c X) (b:∀c1,c1.Fd=c.Fd->FA (f c1) c1 Y):FA (o.bind f) c (X++Y):=fun g=>by
 simp only [List.length_append] at g;obtain⟨i,j⟩:=h (by omega);obtain⟨k,m⟩:=b (Z0.mk c.Fd ⟨i,c.dc.l++X⟩) rfl (by simp only [List.length_append]; omega);exact⟨k,by rw [j,oB,m]; simp only [List.append_assoc]⟩
theorem FA.id {o:Option Z0}{c:Z0}{X:List Z6}(h:FA o c X):FA (o.bind fun x=>some x) c X:=fun b=>by
 obtain⟨f,g⟩:=h b; exact⟨f,by rw [g]; rfl⟩
theorem wy (c:Z0) (e:Int) (at_:Bs):FA (iD c e at_) c [Z6.mk e at_]:=fun b=>by
 unfold iD;rw [DG (by simpa using b)];exact⟨_,rfl⟩
theorem IZ {p n:Bs}(k:p.length<=10000000) (hn:n.length<=1048576) (c:Z0) (b:Bool):FA (bif b then((bM p ([40]:Bs)).bind fun f=>(bM f n).bind fun g=>(bM g ([41]:Bs)).bind fun i=>(iD c (22:Int) i).bind fun j=>some j) else some c) c (kJ p n b):=by
 cases b
 ·exact FA.pure c
 ·rw [cond_true,di (by simp; omega),oB,di (by simp; omega),oB,di (by simp; omega),oB];exact(wy c 22 _).id
theorem I1 {p:Bs}(b:p.length<=10000000) (y:Z7×Bool):∀(l:List Z8) (c:Z0),(∀a∈l,a.aa.length<=1048576)->FA (kB p y l c) c (jI p y.1 l)
 | [],c,_=>by rw [kB]; exact .pure c
 | a::r,c,h=>by
  rw [kB];simp only [on,wq,S6];have e:jI p y.1 (a::r)=kJ p a.aa (!(cQ y.1.aH.l a.aa).2||!ja a.aA (cQ y.1.aH.l a.aa).1.aA)++jI p y.1 r:=rfl;rw [e];have key:∀v:Bool,(!(cQ y.1.aH.l a.aa).2||!v)=(!(cQ y.1.aH.l a.aa).2||!ja a.aA (cQ y.1.aH.l a.aa).1.aA)->FA (Option.bind (bif ((!(cQ y.1.aH.l a.aa).2)||(!v)) then((bM p ([40]:Bs)).bind fun f=>(bM f a.aa).bind fun g=>(bM g ([41]:Bs)).bind fun i=>(iD c (22:Int) i).bind fun j=>some j) else(some c)) fun k=>kB p y r k) c (kJ p a.aa (!(cQ y.1.aH.l a.aa).2||!ja a.aA (cQ y.1.aH.l a.aa).1.aA)++jI p y.1 r):=by
   intro v hv;rw [hv];exact FA.bind (IZ b (h a (.head _)) c _) fun c1 _=>I1 b y r c1 fun x hx=>h x (.tail _ hx)
  cases hk:(cQ y.1.aH.l a.aa).2
  ·rw [hk] at key;exact key false rfl
  ·rw [hk] at key;exact key _ rfl
theorem I2 (x:Z7){p:Bs}(b:p.length<=10000000):∀(l:List Z8) (c:Z0),(∀a∈l,a.aa.length<=1048576)->FA (kC x p l c) c (mh p x l)
 | [],c,_=>by rw [kC]; exact .pure c
 | a::r,c,h=>by
  rw [kC];simp only [on,wq,uB];have e:mh p x (a::r)=kJ p a.aa ((!(cQ x.aH.l a.aa).2&&eB a.aA.aF.l)&&!a.bY)++mh p x r:=rfl;have f:((!(cQ x.aH.l a.aa).2)&&(bif (!(cQ x.aH.l a.aa).2) then eB a.aA.aF.l else false))=(!(cQ x.aH.l a.aa).2&&eB a.aA.aF.l):=by cases (cQ x.aH.l a.aa).2<;>rfl
  rw [e,f];exact FA.bind (IZ b (h a (.head _)) c _) fun c1 _=>I2 x b r c1 fun x hx=>h x (.tail _ hx)
theorem I3 (l:List Z7) (s:Bs):(ea l s).1=Z7.zero\/(ea l s).1∈l:=by
 unfold ea;cases h:l.find? (fun t=>t.aa==s) with
 | none=>exact .inl rfl
 | some t=>exact .inr (List.mem_of_find?_eq_some h)
def nc (f:Z7):Prop:=f.aa.length<=1048576/\(∀a∈f.aH.l,a.aa.length<=1048576)/\dJ f.aA.aF
theorem S8:nc Z7.zero:=⟨Nat.zero_le _,fun _ h=>(by cases h),⟨fun _=>rfl,Nat.zero_le _⟩⟩
theorem I4 {l:List Z7}(h:∀f∈l,nc f) (s:Bs):nc (ea l s).1:=by
 rcases I3 l s with e|e
 ·rw [e]; exact S8
 ·exact h _ e
theorem I5 {d:ak}(b:d.aq.l.length<=1048576){t:aj}(ht:t.aa.length<=1048576) (g:∀f∈t.aB.l,nc f):∀(l:List Z7) (c:Z0),c.Fd=d->(∀f∈l,nc f)->FA (mW t l c) c (kL d t l)
 | [],c,_,_=>by rw [mW]; exact .pure c
 | x::r,c,hc,h=>by
  obtain⟨p,i,j⟩:=h x (.head _);obtain⟨q,k,m⟩:=I4 g x.aa;rw [mW];simp only [on,Si];rw [di (by simp; omega),oB,di (by simp; omega),oB];have e:kL d t (x::r)=kK d t x++kL d t r:=rfl;rw [e];refine FA.bind ?_ fun c1 h1=>I5 b ht g r c1 (h1.trans hc) fun f o=>h f (.tail _ o);unfold kK;cases (ea t.aB.l x.aa).2
  ·exact(wy c 20 _).id
  ·simp only [Bool.not_true,cond_false];rw [hc,(yY b m j).1,oB];refine FA.bind ?_ fun c1 _=>FA.bind (I1 (by simp; omega) _ _ c1 i) fun c2 _=>(I2 x (by simp; omega) _ c2 k).id;cases jH d (ea t.aB.l x.aa).1.aA x.aA
   ·exact(wy c 10 _).id
   ·exact .pure c
theorem I6 (c:Z0) (n:Bs) (k:Int):rC c n k=dS c.Fd n k:=by
 unfold rC dS;simp only [on,iq];cases (aT c.Fd.aq.l n).2<;>cases cC n<;>rfl
def jc (t:aj):Prop:=t.aa.length<=1048576/\(∀f∈t.aB.l,nc f)/\∀m∈t.aG.l,m.aa.length<=1048576
theorem S9:jc aj.zero:=⟨Nat.zero_le _,fun _ h=>(by cases h),fun _ h=>(by cases h)⟩
theorem I7 {d:ak}(h:∀t∈d.aq.l,jc t) (s:Bs):jc (aT d.aq.l s).1:=by
 rcases wo d.aq.l s with e|e
 ·rw [e]; exact S9
 ·exact h _ e
theorem I8 {d:ak}(b:d.aq.l.length<=1048576) (hk:∀t∈d.aq.l,jc t){t:aj}(ht:jc t):∀(l:List Bs) (i:Nat) (c:Z0),t.aX.l.drop i=l->c.Fd=d->FA (l8 t l i c) c (iH d t (t.aX.l.take i) l)
 | [],i,c,_,_=>by rw [l8]; exact .pure c
 | n::r,i,c,f,hc=>by
  rw [l8,iH];simp only [on,I6,Dz,iq,hc];have e:(bif ((decide (dS d n 2=(0:Int)))&&(bif (decide (dS d n 2=(0:Int))) then(bif (decide (dS d n 2=(0:Int))) then(⟨t.aX.nl,t.aX.l.take i⟩:Sl Bs) else(Sl.nil:Sl Bs)).l.contains n else false)) then((7:Int)) else(dS d n 2))=e8 d (t.aX.l.take i) n 2:=by
   unfold e8;cases decide (dS d n 2=(0:Int))<;>rfl
  rw [e,<- qo f];refine FA.bind ?_ fun c1 h1=>I8 b hk ht r (i+1) c1 (kF f).1 (h1.trans hc);cases decide (e8 d (t.aX.l.take i) n 2=0)
  ·exact(wy c _ _).id
  ·simp only [Bool.not_true,cond_false];refine FA.id ?_;unfold ug;exact(I5 b ht.1 ht.2.1 _ c hc (I7 hk n).2.1).id
theorem I9 (n:Bs):∀(l:List Z9) (i:Nat),(match lU (fun b=>b.aa==n) l i with|.inl _=>false|.inr e=>decide ((0:Int)<=e))=(l.map Z9.aa).contains n
 | [],i=>rfl
 | a::r,i=>by
  rw [lU,qn,List.any_cons,<- qn,<- I9 n r (i+1)];simp only [on];cases a.aa==n
  ·rfl
  ·simp
theorem S_ (s:Sl Z9) (n:Bs) (m:Z9) (hm:m.aa=n):p6 s (fun b=>rF b m)=(s.l.map Z9.aa).contains n:=by
 rw [<- I9 n s.l 0];unfold p6 vF;have e:(fun b:Z9=>rF b m)=fun b=>b.aa==n:=by funext b; unfold rF; rw [hm]
 rw [e];simp only [on];cases lU (fun b=>b.aa==n) s.l 0<;>rfl
theorem I_ {d:ak}{t:aj}(ht:jc t):∀(l:List Z9) (i:Nat) (c:Z0),t.aG.l.drop i=l->c.Fd=d->(∀m∈l,m.aa.length<=1048576)->FA (l9 t l i c) c (jb d t ((t.aG.l.take i).map Z9.aa) l)
 | [],i,c,_,_,_=>by rw [l9]; exact .pure c
 | m::r,i,c,b,hc,hm=>by
  have h1:=ht.1; have j:=hm m (.head _);rw [l9,jb];simp only [on,I6,hc,S_ _ m.aa m rfl];have e:(bif ((decide (dS d m.aa 1=(0:Int)))&&(bif (decide (dS d m.aa 1=(0:Int))) then((bif (decide (dS d m.aa 1=(0:Int))) then(⟨t.aG.nl,t.aG.l.take i⟩:Sl Z9) else(Sl.nil:Sl Z9)).l.map Z9.aa).contains m.aa else false)) then((7:Int)) else(dS d m.aa 1))=e8 d ((t.aG.l.take i).map Z9.aa) m.aa 1:=by
   unfold e8;cases decide (dS d m.aa 1=(0:Int))<;>rfl
  have f:(t.aG.l.take (i+1)).map Z9.aa=(t.aG.l.take i).map Z9.aa++[m.aa]:=by rw [qo b,List.map_append]; rfl
  rw [e,<- f];refine FA.bind ?_ fun c1 g=>I_ ht r (i+1) c1 (kF b).1 (g.trans hc) fun x hx=>hm x (.tail _ hx);cases decide (e8 d ((t.aG.l.take i).map Z9.aa) m.aa 1=0)
  ·simp only [Bool.not_false,cond_true];rw [di (by simp; omega),oB,di (by simp; omega),oB];exact(wy c _ _).id
  ·exact .pure c
theorem Ja {d:ak}(b:d.aq.l.length<=1048576) (hk:∀t∈d.aq.l,jc t):∀(l:List aj) (c:Z0),(∀t∈l,t∈d.aq.l)->c.Fd=d->FA (mX l c) c (l.flatMap (kM d))
 | [],c,_,_=>by rw [mX]; exact .pure c
 | t::r,c,hm,hc=>by
  have ht:=hk t (hm t (.head _));rw [mX,List.flatMap_cons];simp only [on];refine FA.bind ?_ fun c1 f=>Ja b hk r c1 (fun x hx=>hm x (.tail _ hx)) (f.trans hc);unfold kM;cases decide (t.an=(1:Int))
  ·simp only [cond_false];cases decide (t.an=(3:Int))
   ·exact .pure c
   ·simp only [cond_true];exact(I_ ht t.aG.l 0 c rfl hc ht.2.2).id
  ·simp only [cond_true];refine FA.id ?_;unfold vU;exact(I8 b hk ht t.aX.l 0 c rfl hc).id
theorem Ta {d:ak}(b:d.aq.l.length<=1048576) (hk:∀t∈d.aq.l,jc t) (f:(gL d).length<=oI):∃nl,uj d=some ⟨nl,gL d⟩:=by
 obtain⟨nl,e⟩:=Ja b hk d.aq.l (Z0.mk d (Sl.nil:Sl Z6)) (fun _ h=>h) rfl (by show 0+_<=_; unfold gL at f; omega);unfold uj;rw [e];exact⟨nl,rfl⟩
theorem Tb (s:Bs) (l:List Z8):jw s l=(match l.find? (fun t=>t.aa==s) with|some t=>Sum.inr (t,true)|none=>Sum.inl ()):=by
 induction l with
 | nil=>rfl
 | cons a r b =>
  rw [jw,List.find?_cons];simp only [on,b];cases a.aa==s<;>rfl
theorem yZ (t:Sl Z8) (s:Bs):gQ t s=cQ t.l s:=by
 unfold gQ cQ on;rw [Tb];cases t.l.find? (fun t=>t.aa==s)<;>rfl
theorem Tc (s:Bs) (l:List Z7):lz s l=(match l.find? (fun t=>t.aa==s) with|some t=>Sum.inr (t,true)|none=>Sum.inl ()):=by
 induction l with
 | nil=>rfl
 | cons a r b =>
  rw [lz,List.find?_cons];simp only [on,b];cases a.aa==s<;>rfl
theorem Td (t:aj) (s:Bs):nJ t s=ea t.aB.l s:=by
 unfold nJ ea on;rw [Tc];cases t.aB.l.find? (fun t=>t.aa==s)<;>rfl
def RF (o:Option (Sl Z6)) (s:Sl Z6) (X:List Z6):Prop:=s.l.length+X.length<=oI->∃nl,o=some ⟨nl,s.l++X⟩
theorem RF.pure (s:Sl Z6):RF (some s) s []:=fun _=>⟨s.nl,by simp⟩
theorem RF.bind {o:Option (Sl Z6)}{f:Sl Z6->Option (Sl Z6)}{s:Sl Z6}{X Y:List Z6}(h:RF o s X) (g:∀b,RF (f b) b Y):RF (o.bind f) s (X++Y):=fun i=>by
 simp only [List.length_append] at i;obtain⟨j,k⟩:=h (by omega);obtain⟨m,p⟩:=g ⟨j,s.l++X⟩ (by simp only [List.length_append]; omega);exact⟨m,by rw [k,oB,p]; simp only [List.append_assoc]⟩
theorem RF.id {o:Option (Sl Z6)}{s:Sl Z6}{X:List Z6}(h:RF o s X):RF (o.bind fun x=>some x) s X:=fun b=>by
 obtain⟨f,g⟩:=h b; exact⟨f,by rw [g]; rfl⟩
theorem y2 (s:Sl Z6) (e:Int) (at_:Bs):RF (aW 24 s (⟨false,[Z6.mk e at_]⟩:Sl Z6)) s [Z6.mk e at_]:=fun b=>⟨_,DG (by simpa using b)⟩
theorem DH (s:Sl Z6){o:Option (Sl Z6)}{X:List Z6}(h:X.length<=oI->∃nl,o=some ⟨nl,X⟩):RF (o.bind fun x=>aW 24 s x) s X:=fun b=>by
 obtain⟨g,f⟩:=h (by omega);rw [f,oB,DG (by simpa using b)];exact⟨_,rfl⟩
theorem Jb {p n:Bs}(k:p.length<=10000000) (hn:n.length<=1048576) (s:Sl Z6) (b:Bool):RF (bif b then((bM p ([40]:Bs)).bind fun f=>(bM f n).bind fun g=>(bM g ([41]:Bs)).bind fun i=>(aW 24 s (⟨false,[(Z6.mk (22:Int) i)]⟩:Sl Z6)).bind fun j=>some j) else(some s)) s (kJ p n b):=by
 cases b
 ·exact RF.pure s
 ·rw [cond_true,di (by simp; omega),oB,di (by simp; omega),oB,di (by simp; omega),oB];exact(y2 s 22 _).id
theorem Jc {p:Bs}(b:p.length<=10000000) (y:Z7×Bool):∀(l:List Z8) (s:Sl Z6),(∀a∈l,a.aa.length<=1048576)->RF (j6 p y l s) s (jI p y.1 l)
 | [],s,_=>by rw [j6]; exact .pure s
 | a::r,s,h=>by
  rw [j6];simp only [on,yZ,S7];have e:jI p y.1 (a::r)=kJ p a.aa (!(cQ y.1.aH.l a.aa).2||!ja a.aA (cQ y.1.aH.l a.aa).1.aA)++jI p y.1 r:=rfl;rw [e];have key:∀v:Bool,(!(cQ y.1.aH.l a.aa).2||!v)=(!(cQ y.1.aH.l a.aa).2||!ja a.aA (cQ y.1.aH.l a.aa).1.aA)->RF (Option.bind (bif ((!(cQ y.1.aH.l a.aa).2)||(!v)) then((bM p ([40]:Bs)).bind fun f=>(bM f a.aa).bind fun g=>(bM g ([41]:Bs)).bind fun i=>(aW 24 s (⟨false,[(Z6.mk (22:Int) i)]⟩:Sl Z6)).bind fun j=>some j) else(some s)) fun k=>j6 p y r k) s (kJ p a.aa (!(cQ y.1.aH.l a.aa).2||!ja a.aA (cQ y.1.aH.l a.aa).1.aA)++jI p y.1 r):=by
   intro v hv;rw [hv];exact RF.bind (Jb b (h a (.head _)) s _) fun m=>Jc b y r m fun x hx=>h x (.tail _ hx)
  cases hk:(cQ y.1.aH.l a.aa).2
  ·rw [hk] at key;exact key false rfl
  ·rw [hk] at key;exact key _ rfl
theorem Jd (x:Z7){p:Bs}(b:p.length<=10000000):∀(l:List Z8) (s:Sl Z6),(∀a∈l,a.aa.length<=1048576)->RF (j7 x p l s) s (mh p x l)
 | [],s,_=>by rw [j7]; exact .pure s
 | a::r,s,h=>by
  rw [j7];simp only [on,yZ,uD];have e:mh p x (a::r)=kJ p a.aa ((!(cQ x.aH.l a.aa).2&&eB a.aA.aF.l)&&!a.bY)++mh p x r:=rfl;have f:(((!(cQ x.aH.l a.aa).2)&&(bif (!(cQ x.aH.l a.aa).2) then eB (bif (!(cQ x.aH.l a.aa).2) then a else Z8.zero).aA.aF.l else false))&&(!(bif ((!(cQ x.aH.l a.aa).2)&&(bif (!(cQ x.aH.l a.aa).2) then eB (bif (!(cQ x.aH.l a.aa).2) then a else Z8.zero).aA.aF.l else false)) then a else Z8.zero).bY))=((!(cQ x.aH.l a.aa).2&&eB a.aA.aF.l)&&!a.bY):=by
   cases (cQ x.aH.l a.aa).2
   ·simp only [Bool.not_false,Bool.true_and,cond_true];cases eB a.aA.aF.l<;>rfl
   ·rfl
  rw [e,f];exact RF.bind (Jb b (h a (.head _)) s _) fun g=>Jd x b r g fun x hx=>h x (.tail _ hx)
theorem Te {d:ak}(g:d.aq.l.length<=1048576){t:aj}(ht:t.aa.length<=1048576) (i:∀f∈t.aB.l,nc f){x:Z7}(hx:nc x) (b:(kK d t x).length<=oI):∃nl,nO d t x=some ⟨nl,kK d t x⟩:=by
 obtain⟨s,j,k⟩:=hx;obtain⟨u,m,o⟩:=I4 i x.aa;unfold nO;simp only [on,Td];rw [di (by simp; omega),oB,di (by simp; omega),oB]
 revert b
 unfold kK;cases (ea t.aB.l x.aa).2
 ·exact fun _=>⟨false,rfl⟩
 ·simp only [Bool.not_true,cond_false];intro b;rw [(yY g o k).2,oB];have h1:RF (bif (!jH d (ea t.aB.l x.aa).1.aA x.aA) then((aW 24 (Sl.nil:Sl Z6) (⟨false,[(Z6.mk (10:Int) (t.aa++[46]++x.aa))]⟩:Sl Z6)).bind fun p=>some p) else(some (Sl.nil:Sl Z6))) (Sl.nil:Sl Z6) (bU (!jH d (ea t.aB.l x.aa).1.aA x.aA) 10 (t.aa++[46]++x.aa)):=by
   cases jH d (ea t.aB.l x.aa).1.aA x.aA
   ·exact(y2 _ 10 _).id
   ·exact .pure _
  exact RF.bind h1 (fun q=>RF.bind (Jc (by simp; omega) _ _ q j) fun r=>(Jd x (by simp; omega) _ r m).id) (by show 0+_<=_; omega)
theorem Je {d:ak}(i:d.aq.l.length<=1048576){t:aj}(ht:t.aa.length<=1048576) (j:∀f∈t.aB.l,nc f):∀(l:List Z7) (s:Sl Z6),(∀f∈l,nc f)->RF (j8 d t l s) s (kL d t l)
 | [],s,_=>by rw [j8]; exact .pure s
 | x::r,s,h=>by
  rw [j8];simp only [on];have e:kL d t (x::r)=kK d t x++kL d t r:=rfl;have k:((nO d t x).bind fun b=>(aW 24 s b).bind fun g=>j8 d t r g)=((nO d t x).bind fun b=>aW 24 s b).bind fun g=>j8 d t r g:=by
   cases nO d t x<;>rfl
  rw [e,k];exact RF.bind (DH s (Te i ht j (h x (.head _)))) fun m=>Je i ht j r m fun f o=>h f (.tail _ o)
theorem Jf (d:ak) (n:Bs) (k:Int) (hk:k≠0):qS d n k=dS d n k:=by
 unfold qS dS;simp only [on,i_,show gJ n=cC n from rfl];cases b:(aT d.aq.l n).2
 ·rw [rV b];have:decide (aj.zero.an=k)=false:=dF fun e=>hk e.symm;rw [this];cases cC n<;>rfl
 ·cases cC n<;>rfl
theorem Jg {d:ak}(b:d.aq.l.length<=1048576) (hk:∀t∈d.aq.l,jc t){t:aj}(ht:jc t):∀(l:List Bs) (i:Nat) (s:Sl Z6),t.aX.l.drop i=l->RF (lC d t l i s) s (iH d t (t.aX.l.take i) l)
 | [],i,s,_=>by rw [lC]; exact .pure s
 | n::r,i,s,f=>by
  rw [lC,iH];simp only [on,Jf d n 2 (by decide),DD,i_];have e:(bif ((decide (dS d n 2=(0:Int)))&&(bif (decide (dS d n 2=(0:Int))) then(bif (decide (dS d n 2=(0:Int))) then(⟨t.aX.nl,t.aX.l.take i⟩:Sl Bs) else(Sl.nil:Sl Bs)).l.contains (bif (decide (dS d n 2=(0:Int))) then n else([]:Bs)) else false)) then((7:Int)) else(dS d n 2))=e8 d (t.aX.l.take i) n 2:=by
   unfold e8;cases decide (dS d n 2=(0:Int))<;>rfl
  rw [e,<- qo f];refine RF.bind ?_ fun g=>Jg b hk ht r (i+1) g (kF f).1;cases decide (e8 d (t.aX.l.take i) n 2=0)
  ·exact(y2 s _ _).id
  ·simp only [Bool.not_true,cond_false];exact(Je b ht.1 ht.2.1 _ s (I7 hk n).2.1).id
theorem Jh {d:ak}{t:aj}(ht:jc t):∀(l:List Z9) (i:Nat) (s:Sl Z6),t.aG.l.drop i=l->(∀m∈l,m.aa.length<=1048576)->RF (lD d t l i s) s (jb d t ((t.aG.l.take i).map Z9.aa) l)
 | [],i,s,_,_=>by rw [lD]; exact .pure s
 | m::r,i,s,b,hm=>by
  have h1:=ht.1; have j:=hm m (.head _);rw [lD,jb];simp only [on,Jf d m.aa 1 (by decide),IW,<- qn];have e:(bif ((decide (dS d m.aa 1=(0:Int)))&&(bif (decide (dS d m.aa 1=(0:Int))) then((bif (decide (dS d m.aa 1=(0:Int))) then(⟨t.aG.nl,t.aG.l.take i⟩:Sl Z9) else(Sl.nil:Sl Z9)).l.map Z9.aa).contains m.aa else false)) then((7:Int)) else(dS d m.aa 1))=e8 d ((t.aG.l.take i).map Z9.aa) m.aa 1:=by
   unfold e8;cases decide (dS d m.aa 1=(0:Int))<;>rfl
  have f:(t.aG.l.take (i+1)).map Z9.aa=(t.aG.l.take i).map Z9.aa++[m.aa]:=by rw [qo b,List.map_append]; rfl
  rw [e,<- f];refine RF.bind ?_ fun g=>Jh ht r (i+1) g (kF b).1 fun x hx=>hm x (.tail _ hx);cases decide (e8 d ((t.aG.l.take i).map Z9.aa) m.aa 1=0)
  ·simp only [Bool.not_false,cond_true];rw [di (by simp; omega),oB,di (by simp; omega),oB];exact(y2 s _ _).id
  ·exact .pure s
theorem Ji {d:ak}(f:d.aq.l.length<=1048576) (hk:∀t∈d.aq.l,jc t):∀(l:List aj) (s:Sl Z6),(∀t∈l,t∈d.aq.l)->RF (mC d l s) s (l.flatMap (kM d))
 | [],s,_=>by rw [mC]; exact .pure s
 | t::r,s,hm=>by
  have ht:=hk t (hm t (.head _));rw [mC,List.flatMap_cons];simp only [on];refine RF.bind ?_ fun i=>Ji f hk r i fun x hx=>hm x (.tail _ hx);have g:∀o:Option (Sl Z6),(o.bind fun b=>(aW 24 s b).bind fun j=>some j)=(o.bind fun b=>aW 24 s b).bind fun x=>some x:=fun o=>by cases o<;>rfl
  unfold kM;cases decide (t.an=(1:Int))
  ·simp only [cond_false];cases decide (t.an=(3:Int))
   ·exact .pure s
   ·simp only [cond_true];rw [g];refine(DH s fun k=>?_).id;obtain⟨nl,e⟩:=Jh (d:=d) ht t.aG.l 0 (Sl.nil:Sl Z6) rfl ht.2.2 (by show 0+_<=_; simp only [List.take_zero,List.map_nil]; omega);unfold vh;rw [e];exact⟨nl,rfl⟩
  ·simp only [cond_true];rw [g];refine(DH s fun k=>?_).id;obtain⟨nl,e⟩:=Jg f hk ht t.aX.l 0 (Sl.nil:Sl Z6) rfl (by show 0+_<=_; simp only [List.take_zero]; omega);unfold vg;rw [e];exact⟨nl,rfl⟩
theorem Tf {d:ak}(b:d.aq.l.length<=1048576) (hk:∀t∈d.aq.l,jc t) (f:(gL d).length<=oI):∃nl,tA d=some ⟨nl,gL d⟩:=by
 obtain⟨nl,e⟩:=Ji b hk d.aq.l (Sl.nil:Sl Z6) (fun _ h=>h) (by show 0+_<=_; unfold gL at f; omega);unfold tA;rw [e];exact⟨nl,rfl⟩
theorem Jj (p n:Bs) (b:Bool):(kJ p n b).length<=1:=by unfold kJ bU; cases b<;>simp
theorem oK {α β:Type}{f:α->List β}{g:α->Nat}(h:∀x,(f x).length<=g x):∀l:List α,(l.flatMap f).length<=(l.map g).sum
 | []=>Nat.le_refl _
 | a::r=>by
  rw [List.flatMap_cons,List.length_append,List.map_cons,List.sum_cons];have:=h a; have:=oK h r; omega
theorem DI {α:Type}(l:List α):(l.map fun _=>1).sum=l.length:=by
 induction l with
 | nil=>rfl
 | cons a r b=>simp only [List.map_cons,List.sum_cons,List.length_cons,b]; omega
theorem Jk (p:Bs) (y:Z7) (l:List Z8):(jI p y l).length<=l.length/\(mh p y l).length<=l.length:=by
 rw [<- DI l];exact⟨oK (fun _=>Jj _ _ _) l,oK (fun _=>Jj _ _ _) l⟩
theorem DJ (f:Z7):f.aH.l.length+1<=f.sz:=by
 have:=f.bq; have:=Sl.gz (f:=Z8.sz) f.aH Z8.pos; omega
theorem Tg {t:aj}(n:Bs):(ea t.aB.l n).1.aH.l.length<=t.sz:=by
 rcases I3 t.aB.l n with e|e
 ·rw [e]; exact Nat.zero_le _
 ·have:=DJ (ea t.aB.l n).1; have:=Sl.cW (f:=Z7.sz) e; have:=t.bq; omega
theorem Th (d:ak) (t:aj) (x:Z7):(kK d t x).length<=x.sz+t.sz:=by
 have h1:=DJ x;unfold kK;cases (ea t.aB.l x.aa).2
 ·simp only [Bool.not_false,cond_true,List.length_cons,List.length_nil]; omega
 ·simp only [Bool.not_true,cond_false,List.length_append];have b:=(Jk (t.aa++[46]++x.aa) (ea t.aB.l x.aa).1 x.aH.l).1;have f:=(Jk (t.aa++[46]++x.aa) x (ea t.aB.l x.aa).1.aH.l).2;have g:=Tg (t:=t) x.aa;have i:(bU (!jH d (ea t.aB.l x.aa).1.aA x.aA) 10 (t.aa++[46]++x.aa)).length<=1:=by unfold bU; cases (!jH d (ea t.aB.l x.aa).1.aA x.aA)<;>simp
  omega
theorem Ti {α:Type}(g:α->Nat) (c:Nat) (l:List α):(l.map fun x=>g x+c).sum=(l.map g).sum+l.length*c:=by
 induction l with
 | nil=>simp
 | cons a r b=>simp only [List.map_cons,List.sum_cons,List.length_cons,b,Nat.succ_mul]; omega
theorem Tj (d:ak) (t f:aj):(kL d t f.aB.l).length<=f.sz*(1+t.sz):=by
 have h1:=oK (Th d t) f.aB.l;rw [Ti] at h1;have b:=f.bq;have g:=Sl.gz (f:=Z7.sz) f.aB Z7.pos;have i:Sl.sz Z7.sz f.aB=1+(f.aB.l.map Z7.sz).sum:=rfl;have j:f.aB.l.length*t.sz<=f.sz*t.sz:=Nat.mul_le_mul_right _ (by omega);rw [Nat.mul_add,Nat.mul_one];unfold kL;omega
noncomputable def jJ (l:List aj) (n:Bs):Nat:=bif (aT l n).2 then(aT l n).1.sz else 0
theorem Tl (a:aj) (r:List aj) (n:Bs):jJ (a::r) n=if a.aa=n then a.sz else jJ r n:=by
 unfold jJ aT;rw [List.find?_cons];by_cases h:a.aa=n
 ·rw [show (a.aa==n)=true by simpa using h,if_pos h]; rfl
 ·rw [show (a.aa==n)=false by simpa using h,if_neg h]
theorem Jl (s:Bs) (c:Nat):∀g:List Bs,g.Nodup->(g.map fun n=>if s=n then c else 0).sum<=c
 | [],_=>Nat.zero_le _
 | n::r,h=>by
  obtain⟨h1,i⟩:=List.nodup_cons.1 h;rw [List.map_cons,List.sum_cons];by_cases f:s=n
  ·have h0:∀l:List Bs,n∉l->(l.map fun n=>if s=n then c else 0).sum=0:=fun l hl=>by
    induction l with
    | nil=>rfl
    | cons b q j =>
     rw [List.map_cons,List.sum_cons,if_neg (fun e=>hl (by rw [<- f,e]; exact .head _)),j (fun hq=>hl (.tail _ hq))]
   rw [if_pos f,h0 r h1]; omega
  ·rw [if_neg f]; have:=Jl s c r i; omega
theorem Jm:∀(l:List aj) (f:List Bs),f.Nodup->(f.map (jJ l)).sum<=(l.map aj.sz).sum
 | [],f,_=>by
  have:∀q:List Bs,(q.map (jJ [])).sum=0:=fun q=>by
   induction q with
   | nil=>rfl
   | cons b q g=>rw [List.map_cons,List.sum_cons,g]; rfl
  rw [this]; exact Nat.zero_le _
 | a::r,f,h=>by
  have h1:=Jl a.aa a.sz f h;have j:=Jm r f h;have i:∀q:List Bs,(q.map (jJ (a::r))).sum<=(q.map fun n=>if a.aa=n then a.sz else 0).sum+(q.map (jJ r)).sum:=fun q=>by
   induction q with
   | nil=>exact Nat.le_refl _
   | cons b q g =>
    simp only [List.map_cons,List.sum_cons];rw [Tl]
    split<;>omega
  have:=i f;rw [List.map_cons,List.sum_cons]; omega
def mi:List Bs->List Bs->List Bs
 | _,[]=>[]
 | s,n::r=>bif s.contains n then mi (s++[n]) r else n::mi (s++[n]) r
theorem DK:∀(l s:List Bs) (n:Bs),n∈mi s l->n∉s
 | [],_,_,h=>by cases h
 | a::r,s,n,h=>by
  rw [mi] at h;cases hc:s.contains a
  ·rw [hc,cond_false] at h;rcases List.mem_cons.1 h with rfl|h
   ·simpa using hc
   ·have:=DK r (s++[a]) n h;exact fun hn=>this (by simp [hn])
  ·rw [hc,cond_true] at h;have:=DK r (s++[a]) n h;exact fun hn=>this (by simp [hn])
theorem DL:∀(l s:List Bs),(mi s l).Nodup
 | [],_=>List.nodup_nil
 | a::r,s=>by
  rw [mi];cases s.contains a
  ·rw [cond_false,List.nodup_cons];exact⟨fun h=>DK r (s++[a]) a h (by simp),DL r _⟩
  ·rw [cond_true]; exact DL r _
theorem Jn (d:ak) (t:aj):∀(l s:List Bs),(iH d t s l).length<=l.length+((mi s l).map (jJ d.aq.l)).sum*(1+t.sz)
 | [],s=>by simp [iH]
 | n::r,s=>by
  have i:=Jn d t r (s++[n]);rw [iH,List.length_append,mi];cases he:decide (e8 d s n 2=0)
  ·simp only [Bool.not_false,cond_true,List.length_cons,List.length_nil];cases s.contains n
   ·simp only [cond_false,List.map_cons,List.sum_cons];have:((mi (s++[n]) r).map (jJ d.aq.l)).sum*(1+t.sz)<=(jJ d.aq.l n+((mi (s++[n]) r).map (jJ d.aq.l)).sum)*(1+t.sz):=Nat.mul_le_mul_right _ (by omega);omega
   ·simp only [cond_true]; omega
  ·have he:=oD he;have hc:s.contains n=false:=by
    cases hc:s.contains n
    ·rfl
    ·unfold e8 at he;rw [hc,Bool.and_true] at he;cases b:decide (dS d n 2=0)
     ·rw [b,cond_false] at he; rw [decide_eq_false_iff_not] at b; exact absurd he b
     ·rw [b,cond_true] at he; cases he
   have g:(aT d.aq.l n).2=true:=by
    unfold e8 at he;rw [hc,Bool.and_false,cond_false] at he;unfold dS at he;cases g:(aT d.aq.l n).2
    ·rw [g] at he;cases f:cC n
     ·rw [f] at he; cases he
     ·rw [f] at he; cases he
    ·rfl
   have f:jJ d.aq.l n=(aT d.aq.l n).1.sz:=by unfold jJ; rw [g]; rfl
   have h1:=Tj d t (aT d.aq.l n).1;rw [hc];simp only [Bool.not_true,cond_false,List.map_cons,List.sum_cons,List.length_cons,Nat.add_mul];rw [f]; omega
theorem Jo (d:ak) (t:aj):∀(l:List Z9) (s:List Bs),(jb d t s l).length<=l.length
 | [],s=>Nat.le_refl _
 | m::r,s=>by
  have b:=Jo d t r (s++[m.aa]);rw [jb,List.length_append,List.length_cons];have:(bU (!decide (e8 d s m.aa 1=0)) (e8 d s m.aa 1) (t.aa++[46]++m.aa)).length<=1:=by unfold bU; cases (!decide (e8 d s m.aa 1=0))<;>simp
  omega
theorem Tm (d:ak) (t:aj):(kM d t).length<=t.sz+(d.aq.l.map aj.sz).sum*(1+t.sz):=by
 have h0:=t.bq;have h1:=Sl.gz (f:=Bs.sz) t.aX (fun s=>Nat.succ_le_succ (Nat.zero_le _));have g:=Sl.gz (f:=Z9.sz) t.aG Z9.pos;unfold kM;cases decide (t.an=1)
 ·cases decide (t.an=3)
  ·exact Nat.zero_le _
  ·simp only [cond_false,cond_true];have:=Jo d t t.aG.l []; omega
 ·simp only [cond_true];have i:=Jn d t t.aX.l [];have b:=Jm d.aq.l (mi [] t.aX.l) (DL _ _);have j:=Nat.mul_le_mul_right (1+t.sz) b;omega
theorem Jp (S:Nat):∀l:List aj,(l.map fun t=>t.sz+S*(1+t.sz)).sum=(l.map aj.sz).sum+S*(l.length+(l.map aj.sz).sum)
 | []=>rfl
 | a::r=>by
  rw [List.map_cons,List.sum_cons,Jp S r,List.map_cons,List.sum_cons,List.length_cons];simp only [Nat.mul_add,Nat.mul_one];omega
theorem Tn {d:ak}(i:d.sz<=1048576):(gL d).length<=3300000000000:=by
 have h0:=d.bq;have h1:Sl.sz aj.sz d.aq=1+(d.aq.l.map aj.sz).sum:=rfl;have j:=Sl.gz (f:=aj.sz) d.aq aj.pos;have b:=oK (Tm d) d.aq.l;rw [Jp] at b;have g:(d.aq.l.map aj.sz).sum<=1048576:=by omega
 have k:(d.aq.l.map aj.sz).sum*(d.aq.l.length+(d.aq.l.map aj.sz).sum)<=1048576*(1048576+1048576):=Nat.mul_le_mul g (by omega);unfold gL;omega
theorem y5 {d e:ak}(f:d.aq.l.length<=1048576) (he:e.aq.l.length<=1048576):∀(m:Nat) (a b:az),a.aF.l.length<=1048576->b.aF.l.length<=1048576->gK e b.aa a.aa=gK d b.aa a.aa->a.aF.l.length+b.aF.l.length<m ->
  ∃v,iN m d a b=some v/\iN m e a b=some v
 | 0,_,_,_,_,_,h=>by omega
 | m+1,a,b,o,i,g,hm=>by
  rw [iN,iN];simp only [Ab.on,uD,rW o,rW i,wx o,wx i,oB];have t:=ww a.aF;have u:=ww b.aF;cases r:eB b.aF.l
  ·simp only [cond_false];cases j:eB a.aF.l
   ·simp only [cond_false];have last:∃v,(aR (!((a.aa==b.aa))) (nN d a.aa b.aa) false fun k=>some (((a.aa==b.aa))||k))=some v/\(aR (!((a.aa==b.aa))) (nN e a.aa b.aa) false fun k=>some (((a.aa==b.aa))||k))=some v:=by
     rw [DF f,DF he,g];cases (a.aa==b.aa)<;>exact⟨_,rfl,rfl⟩
    cases s:fR (b8 a.aF).l
    ·cases p:fR (b8 b.aF).l
     ·exact last
     ·exact⟨_,rfl,rfl⟩
    ·cases p:fR (b8 b.aF).l
     ·exact⟨_,rfl,rfl⟩
     ·have h1:=yT s;have q:=yT p;have w:((b8 a.aF).l.drop 1).length<a.aF.l.length:=h1;have x:((b8 b.aF).l.drop 1).length<b.aF.l.length:=q;obtain⟨v,hv,hw⟩:=y5 f he m ⟨a.aa,⟨false,(b8 a.aF).l.drop 1⟩⟩ ⟨b.aa,⟨false,(b8 b.aF).l.drop 1⟩⟩ (by show ((b8 a.aF).l.drop 1).length<=_; omega) (by show ((b8 b.aF).l.drop 1).length<=_; omega) g (by show ((b8 a.aF).l.drop 1).length+((b8 b.aF).l.drop 1).length<m; omega)
      simp only [cond_true,Bool.or_self,Bool.and_self,aR,if_true,hv,hw,oB];exact⟨_,rfl,rfl⟩
   ·have h1:(b8 a.aF).l.length<a.aF.l.length:=uE j;obtain⟨v,hv,hw⟩:=y5 f he m ⟨a.aa,⟨false,(b8 a.aF).l⟩⟩ b (by show (b8 a.aF).l.length<=_; omega) i g (by show (b8 a.aF).l.length+b.aF.l.length<m; omega);simp only [cond_true,hv,hw];exact⟨_,rfl,rfl⟩
  ·simp only [cond_true];cases j:eB a.aF.l
   ·exact⟨_,rfl,rfl⟩
   ·have h1:(b8 a.aF).l.length<a.aF.l.length:=uE j;have q:(b8 b.aF).l.length<b.aF.l.length:=uE r;obtain⟨v,hv,hw⟩:=y5 f he m ⟨a.aa,⟨false,(b8 a.aF).l⟩⟩ ⟨b.aa,⟨false,(b8 b.aF).l⟩⟩ (by show (b8 a.aF).l.length<=_; omega) (by show (b8 b.aF).l.length<=_; omega) g (by show (b8 a.aF).l.length+(b8 b.aF).l.length<m; omega);simp only [aR,if_true,hv,hw,oB]
    exact⟨_,rfl,rfl⟩
def rX (a b:az):Prop:=a.aa=b.aa/\a.aF.l=b.aF.l
theorem To {t:az}(h:t.aF.l.length<=1048576):∃x,jx t=some (x,fR (b8 t.aF).l)/\(fR (b8 t.aF).l=true->rX (rR t) x):=by
 unfold jx;rw [IP h];simp only [oB];cases hl:fR (b8 t.aF).l with
 | false=>exact⟨_,rfl,fun h=>by cases h⟩
 | true =>
  have:=ww t.aF;simp only [Bool.not_true,cond_false];rw [rW h];simp only [oB];rw [DA (show (b8 t.aF).l.length<=1048576 by omega) (yS hl)];exact⟨_,rfl,fun _=>⟨rfl,rfl⟩⟩
theorem rX.jE {a b:az}(h:rX a b):(b8 a.aF).l=(b8 b.aF).l:=by
 unfold b8; rw [h.2]; cases eB b.aF.l<;>simp [h.2]
theorem Tp (l:List aj) (s:Bs):mo s l=jA s l:=by
 induction l with
 | nil=>rfl
 | cons a r b=>rw [mo,jA,b]; rfl
theorem DM (d:ak) (s:Bs):eA d s=aT d.aq.l s:=by
 rw [<- iq]; unfold eA eT; rw [Tp]; all_goals rfl
theorem Tq (l:List Z8) (s:Bs):jw s l=mV s l:=by
 induction l with
 | nil=>rfl
 | cons a r b=>rw [jw,mV,b]; rfl
theorem Tr (t:Sl Z8) (s:Bs):gQ t s=cQ t.l s:=by
 rw [<- wq]; unfold gQ l6; rw [Tq]; all_goals rfl
theorem DN (l:List aj) (s:Bs) (h:(aT l s).2=false):(aT l s).1=aj.zero:=by
 unfold aT at *;cases e:l.find? (fun t=>t.aa==s) with
 | none=>rfl
 | some t=>rw [e] at h; cases h
theorem Tt (d:ak) (s:Bs):nH d s=mR d s:=by
 unfold nH mR lV;simp only [on,DM,iq];show (cC s||_)=_;cases h:(aT d.aq.l s).2 with
 | true=>cases cC s<;>simp
 | false=>rw [DN _ _ h]; cases cC s<;>simp [aj.zero]
theorem DO (d:ak) (s:Bs):gR d s=gm d s:=by
 unfold gR gm lV;simp only [on,DM,iq,Tt];cases h:(aT d.aq.l s).2 with
 | true=>cases mR d s<;>simp
 | false=>rw [DN _ _ h]; cases mR d s<;>simp [aj.zero]
theorem Jq {d:ak}{s:Bs}(h:gm d s=true) (f:cC s=false):(aT d.aq.l s).1.an=4\/(aT d.aq.l s).1.an=5:=by
 unfold gm mR lV on at h;simp only [f,iq,Bool.not_false,cond_true,Bool.false_or] at h;by_cases b:(aT d.aq.l s).1.an=4
 ·exact .inl b
 ·simp [b] at h; exact .inr h
def bB:Nat:=549755813888
def Rl:Nat->af->af->Prop
 | 0,_,_=>False
 | n+1,v,w=>v.an=w.an/\(v.bl=w.bl /\ -9223372036854775808<=v.bl/\v.bl<=9223372036854775807)/\v.bg=w.bg/\v.aN.l=w.aN.l/\(v.aN.nl=true->v.aN.l=[])/\v.aN.l.length<=bB/\v.aD.l.length<=bB /\
  (v.an=3\/v.an=4->v.bl=0/\v.aD.l=[]/\v.aN.l=[])/\aY (Rl n) v.aD.l w.aD.l
theorem Rl.mono:∀{n m:Nat}{v w:af},n<=m->Rl n v w->Rl m v w
 | 0,_,_,_,_,h=>h.elim
 | n+1,0,_,_,hn,_=>by omega
 | n+1,m+1,v,w,hn,⟨a,b,c,d,e,f,g,i,k⟩=>⟨a,b,c,d,e,f,g,i,k.imp fun _ _ h=>Rl.mono (by omega) h⟩
theorem qp {α:Type}{s r:Sl α}(h:s.l.length+r.l.length<=1099511627776):aW 80 s r=some ⟨s.nl&&r.l.isEmpty,s.l++r.l⟩:=by
 unfold aW; rw [if_pos];have:(s.l.length+r.l.length)*80<=1099511627776*80:=Nat.mul_le_mul_right _ h;unfold cS; omega
theorem Tu {s:Sl Bs}(h:s.nl=true->s.l=[]) (hl:s.l.length<=bB):∃r,od s=some r/\r.l=s.l/\(r.nl=true->r.l=[]):=by
 unfold od;unfold bB at hl;cases hn:s.nl with
 | true=>exact⟨Sl.nil,rfl,(h hn).symm,fun _=>rfl⟩
 | false=>rw [cond_false,uZ (by omega) (by simp; omega)]; exact⟨_,rfl,by simp,fun e=>by simp at e⟩
theorem DP:∀(n:Nat){v w:af},Rl n v w->∀m,2*n<=m->∃r,iT m v=some r/\Rl n r w
 | 0,_,_,h,_,_=>h.elim
 | n+1,v,w,⟨h1,z,B,C,E,u,x,F,j⟩,m,hm=>by
  obtain⟨m1,rfl⟩:∃m1,m=m1+1+1:=⟨m-2,by omega⟩;have hl:∀(l l':List af) (acc g:List af) (s:Sl af),aY (Rl n) l l'->aY (Rl n) acc g->s.l=acc->s.l.length+l.length<=bB->∃f:Sl af,lQ (iT m1) l s=some f/\aY (Rl n) f.l (g++l'):=by
   intro l l' acc g s hl;induction hl generalizing acc g s with
   | nil=>intro o e _; exact⟨s,rfl,by rw [e]; simpa using o⟩
   | @cons a b t O G ht H =>
    intro o e y;obtain⟨r,hr,I⟩:=DP n G m1 (by omega);rw [lQ];simp only [Ab.on,hr,oB];simp only [List.length_cons] at y;rw [qp (by unfold bB at y; simp; omega),oB];obtain⟨f,p,i⟩:=H (acc++[r]) (g++[b]) ⟨s.nl&&[r].isEmpty,s.l++[r]⟩ (o.append (.cons I .nil)) (by simp [e]) (by simp; omega);exact⟨f,p,by simpa using i⟩
  obtain⟨f,p,i⟩:=hl v.aD.l w.aD.l [] [] Sl.nil j .nil rfl (by simpa [Sl.nil] using x);obtain⟨k,J,q,K⟩:=Tu E u;rw [iT,tQ,p,oB];simp only [Ab.on,oB,J];have hlen:=i.length;simp only [List.nil_append] at i hlen;refine⟨_,rfl,h1,z,B, ?_,K, ?_, ?_,fun hk=>?_,i⟩
  ·show k.l=_; rw [q]; exact C
  ·show k.l.length<=_; rw [q]; exact u
  ·show f.l.length<=_; rw [hlen,<- j.length]; exact x
  ·obtain⟨L,M,N⟩:=F hk;have:f.l=[]:=List.eq_nil_of_length_eq_zero (by rw [hlen,<- j.length,M]; rfl);exact⟨L,this,by show k.l=[]; rw [q]; exact N⟩
theorem Jr:∀(n:Nat){v w:af},Rl n v w->∀m,2*n<=m->∃r,iw m w=some r/\Rl n v r
 | 0,_,_,h,_,_=>h.elim
 | n+1,v,w,⟨h1,y,z,o,B,p,q,C,u⟩,m,hm=>by
  obtain⟨m1,rfl⟩:∃m1,m=m1+1+1:=⟨m-2,by omega⟩;have hl:∀(l l':List af) (acc f:List af) (s:Sl af),aY (Rl n) l l'->aY (Rl n) acc f->s.l=f->s.l.length+l'.length<=bB->∃g:Sl af,lE (iw m1) l' s=some g/\aY (Rl n) (acc++l) g.l:=by
   intro l l' acc f s hl;induction hl generalizing acc f s with
   | nil=>intro j e _; exact⟨s,rfl,by rw [e]; simpa using j⟩
   | @cons a b t H E ht F =>
    intro j e x;obtain⟨r,hr,G⟩:=Jr n E m1 (by omega);rw [lE];simp only [Ab.on,hr,oB];simp only [List.length_cons] at x;rw [qp (by unfold bB at x; simp; omega),oB];obtain⟨g,k,i⟩:=F (acc++[a]) (f++[r]) ⟨s.nl&&[r].isEmpty,s.l++[r]⟩ (j.append (.cons G .nil)) (by simp [e]) (by simp; omega);exact⟨g,k,by simpa using i⟩
  obtain⟨g,k,i⟩:=hl v.aD.l w.aD.l [] [] Sl.nil u .nil rfl (by rw [<- u.length]; simpa [Sl.nil] using q);rw [iw,qY,k,oB];simp only [Ab.on,oB];rw [uZ (by omega) (by rw [<- o]; unfold bB at p; simp; omega),oB];simp only [List.nil_append] at i;exact⟨_,rfl,h1,y,z,(show v.aN.l=[]++w.aN.l by simpa using o),B,p,q,C,i⟩
theorem Js (d:ak) (va:af) (li:Bool) (n f:Int) (hn:0<=n/\n<=4096) :
  (∃e c' k',e≠0/\ov ⟨d,va,li,n⟩ f=some (e,c')/\iO ⟨d,va,li,n,0⟩ f=some k'/\k'.cH=e) \/
  (f<=24/\n+1<=4096/\ov ⟨d,va,li,n⟩ f=some (0,⟨d,va,li,n+1⟩)/\iO ⟨d,va,li,n,0⟩ f=some ⟨d,va,li,n+1,0⟩):=by
 have g:cG n (1:Int)=some (n+1):=fP (by omega);unfold ov iO eM;simp only [Ab.on,g,oB];by_cases h1:(24:Int)<f
 ·left
  simp only [h1,decide_true,cond_true,g,oB];by_cases b:(4096:Int)<n+1
  ·exact⟨5,_,_,by omega,rfl,by simp [b]; rfl,rfl⟩
  ·exact⟨5,_,_,by omega,rfl,by simp [b]; rfl,rfl⟩
 ·simp only [h1,decide_false,cond_false,g,oB];by_cases b:(4096:Int)<n+1
  ·left
   exact⟨4,_,_,by omega,by simp [b]; rfl,by simp [b]; rfl,rfl⟩
  ·right
   exact⟨by omega,by omega,by simp [b],by simp [b]⟩
def Tv (n:Nat) (d:ak) (va:af) (li:Bool) (v:af) (p:Option (Int×Z1)) (q:Option (af×Z4)):Prop :=
 (∃e c' x k',e≠0/\p=some (e,c')/\q=some (x,k')/\k'.cH=e)\/(∃m x,0<=m/\m<=4096/\p=some (0,⟨d,va,li,m⟩)/\q=some (x,⟨d,va,li,m,0⟩)/\Rl n v x)
theorem Jt (a2:Int) (k:Z4->af->Int->Option (af×Z4)) (l:List af) (w:Z4) (x:af) (h:w.cH≠0):j9 a2 k l w x=some (w,x):=by
 cases l with
 | nil=>rfl
 | cons a t=>rw [j9]; simp [h]
theorem Ju:∀(n:Nat){v w:af},Rl n v w->∀(m:Nat) (d:ak) (va:af) (li:Bool) (c f:Int),n<=m->0<=c/\c<=4096->0<=f/\f<=1099511627776 ->
  Tv n d va li v (kD m ⟨d,va,li,c⟩ v f) (j_ m ⟨d,va,li,c,0⟩ w f)
 | 0,_,_,h,_,_,_,_,_,_,_,_,_=>h.elim
 | n+1,v,w,⟨h1,G,N,H,O,I,J,P,K⟩,m,d,va,li,c,f,hm,hc,hl=>by
  obtain⟨m,rfl⟩:∃m1,m=m1+1:=⟨m-1,by omega⟩;rw [kD,j_];have hk:aW 16 ((af.mk w.an w.bl w.bg true ([]) (Sl.nil:Sl Bs)).aN) w.aN=some ⟨true&&w.aN.l.isEmpty,[]++w.aN.l⟩:=by
   rw [uZ (by omega) (by show ([]:List Bs).length+_<=_; rw [<- H]; unfold bB at I; simp; omega)]; rfl
  rcases Js d va li c f hc with ⟨e,c',k',he,r,k,L⟩|⟨Y,M,r,k⟩
  ·left
   rw [r,k,oB,oB,hk,oB,Jt _ _ _ _ _ (by rw [L]; exact he)];exact⟨e,c',_,k',he,by simp [he],rfl,L⟩
  ·rw [r,k,oB,oB,hk,oB];have Q:∀(l l':List af) (acc p:List af) (x:af) (c:Int),aY (Rl n) l l'->aY (Rl n) acc p->x.aD.l=p->x.aD.l.length+l'.length<=bB->0<=c/\c<=4096 ->
     (∃e c' k' x',e≠0/\ow f (kD m) l ⟨d,va,li,c⟩=some (Sum.inr (e,c'))/\j9 f (j_ m) l' ⟨d,va,li,c,0⟩ x=some (k',x')/\k'.cH=e) \/
     (∃c' x',0<=c'/\c'<=4096/\ow f (kD m) l ⟨d,va,li,c⟩=some (Sum.inl ⟨d,va,li,c'⟩)/\j9 f (j_ m) l' ⟨d,va,li,c,0⟩ x=some (⟨d,va,li,c',0⟩,x') /\
      x'.an=x.an/\x'.bl=x.bl/\x'.bg=x.bg/\x'.aN=x.aN/\aY (Rl n) (acc++l) x'.aD.l):=by
    intro l l' acc p x c R;induction R generalizing acc p x c with
    | nil=>intro s e q hc; right; exact⟨c,x,hc.1,hc.2,rfl,rfl,rfl,rfl,rfl,rfl,by rw [e]; simpa using s⟩
    | @cons a b t Z S ht U =>
     intro s e q hc;simp only [List.length_cons] at q;rw [ow,j9];simp only [Ab.on,fP (show -9223372036854775808<=f+1/\f+1<=9223372036854775807 by omega),oB,decide_true,cond_true];rcases Ju n S m d va li c (f+1) (by omega) hc (by omega) with ⟨W,c',y,k',he,g,i,j⟩|⟨c',y,X,M,g,i,j⟩
     ·left
      rw [g,i,oB,oB,qp (by unfold bB at q; simp; omega),oB,Jt _ _ _ _ _ (by rw [j]; exact he)];exact⟨W,c',k',_,he,by simp [he],rfl,j⟩
     ·rw [g,i,oB,oB,qp (by unfold bB at q; simp; omega),oB];have:=U (acc++[a]) (p++[y]) (af.mk x.an x.bl x.bg (x.aD.nl&&[y].isEmpty) (x.aD.l++[y]) x.aN) c' (s.append (.cons j .nil)) (by show x.aD.l++[y]=_; rw [e]) (by show (x.aD.l++[y]).length+_<=_; simp; omega) ⟨X,M⟩;simp only [decide_true,Bool.not_true,cond_false]
      rcases this with ⟨k,c2,k2,u,g0,g1,g2,g3⟩|⟨c2,u,g1,g2,g3,g4,z,B,C,E,F⟩
      ·exact .inl ⟨k,c2,k2,u,g0,g1,g2,g3⟩
      ·exact .inr ⟨c2,u,g1,g2,g3,g4,z,B,C,E,by simpa using F⟩
   rcases Q v.aD.l w.aD.l [] [] (af.mk w.an w.bl w.bg true [] ⟨true&&w.aN.l.isEmpty,[]++w.aN.l⟩) (c+1) K .nil rfl (by show ([]:List af).length+_<=_; rw [<- K.length]; simpa using J) (by omega) with
    ⟨e,c',k',x',he,g,i,j⟩|⟨c',x',g1,g2,g,i,z,B,C,E,F⟩
   ·left
    refine⟨e,c',x',k',he, ?_, ?_,j⟩
    ·simp only [decide_true,Bool.not_true,cond_false,g,oB]
    ·exact(congrArg (fun o=>Option.bind o _) i)
   ·right
    refine⟨c',x',g1,g2, ?_, ?_,by rw [z]; exact h1,⟨by rw [B]; exact G.1,G.2⟩,by rw [C]; exact N,by rw [E]; show _=[]++w.aN.l; simpa using H,O,I,J,P,by simpa using F⟩
    ·simp only [decide_true,Bool.not_true,cond_false,g,oB,Ab.on]
    ·exact(congrArg (fun o=>Option.bind o _) i)
def zv:af:=af.mk (0:Int) (0:Int) ([]:Bs) true ([]) (Sl.nil:Sl Bs)
theorem rY:Rl 1 zv zv:=⟨rfl,⟨rfl,by decide,by decide⟩,rfl,rfl,fun _=>rfl,by show 0<=_; omega,by show 0<=_; omega,fun _=>⟨rfl,rfl,rfl⟩,.nil⟩
theorem DQ {n:Nat}{v w:af}(h:Rl (n+1) v w) (hn:n<=1099511627776) (s:Bs):∃x y b,l_ v s=some (x,b)/\jy w s=some (y,b)/\((b=true/\Rl n x y)\/(b=false/\x=zv/\y=zv)):=by
 obtain⟨h1,M,N,t,O,P,Q,R,m⟩:=h;have hk:∀(l:List Bs) (i:Nat),(∃j:Nat,kr s l i=Sum.inr (j:Int)/\∀w:af,iy w s l i=(bif decide (((w.aD.l.length:Nat):Int)<=((j:Nat):Int)) then some (Sum.inr (zv,false)) else((w.aD.l[j]?).bind fun u=>(xK u).bind fun z=>some (Sum.inr (z,true))))) \/
   (kr s l i=Sum.inl ()/\∀w:af,iy w s l i=some (Sum.inl ())):=by
  intro l;induction l with
  | nil=>intro i; exact .inr ⟨rfl,fun _=>rfl⟩
  | cons a r B =>
   intro i;rw [kr];simp only [Ab.on];cases e:(s==a) with
   | true=>exact .inl ⟨i,rfl,fun w=>by rw [iy]; simp only [Ab.on,show (a==s)=true by rw [Bool.beq_comm]; exact e,cond_true]; rfl⟩
   | false =>
    have o:(a==s)=false:=by rw [Bool.beq_comm]; exact e
    rcases B (i+1) with ⟨j,f,g⟩|⟨f,g⟩
    ·exact .inl ⟨j,f,fun w=>by rw [iy]; simp only [Ab.on,o,cond_false]; exact g w⟩
    ·exact .inr ⟨f,fun w=>by rw [iy]; simp only [Ab.on,o,cond_false]; exact g w⟩
 have p:∀i:Int,lM v.aN s=i->l_ v s=(if v.an=6/\0<=i/\i<v.aD.l.length then((dh v.aD.l i).bind fun C=>(mJ C).bind fun E=>some (E,true)) else some (zv,false)):=by
  intro i hi;unfold l_;rw [hi];by_cases f:v.an=6<;>by_cases g:i<0<;>by_cases F:(v.aD.l.length:Int)<=i<;>simp [Ab.on,f,g,F,zv]<;>try omega
  all_goals (rw [if_pos (by omega)])
 unfold jy;rw [<- h1,<- t];rcases hk v.aN.l 0 with ⟨j,f,g⟩|⟨f,g⟩
 ·have hi:lM v.aN s=(j:Int):=by unfold lM; rw [f]; rfl
  rw [p _ hi,g w,<- m.length];by_cases k:v.an=6
  ·simp only [k,decide_true,Bool.not_true,cond_false,true_and];by_cases q:j<v.aD.l.length
   ·obtain⟨y,G,hr⟩:=m.get (List.getElem?_eq_getElem q);obtain⟨x',H,I⟩:=DP n hr F0 (by rw [fK]; omega);obtain⟨J,K,L⟩:=Jr n I F0 (by rw [fK]; omega);have hq:decide (((v.aD.l.length:Nat):Int)<=(j:Int))=false:=dF (by omega);refine⟨x',J,true, ?_, ?_,.inl ⟨rfl,L⟩⟩
    ·rw [if_pos (by omega)];unfold dh; rw [if_pos (by omega)];rw [show ((j:Int).toNat)=j by omega,List.getElem?_eq_getElem q,oB];unfold mJ; rw [H]; rfl
    ·rw [hq,cond_false,G,oB]; unfold xK; rw [K]; rfl
   ·have hq:decide (((v.aD.l.length:Nat):Int)<=(j:Int))=true:=dT (by omega);refine⟨zv,zv,false,by rw [if_neg (by omega)], ?_,.inr ⟨rfl,rfl,rfl⟩⟩;rw [hq]; rfl
  ·refine⟨zv,zv,false,by rw [if_neg (fun h=>k h.1)], ?_,.inr ⟨rfl,rfl,rfl⟩⟩;simp only [k,decide_false,Bool.not_false,cond_true]; rfl
 ·have hi:lM v.aN s = -1:=by unfold lM; rw [f]; rfl
  rw [p _ hi,g w];refine⟨zv,zv,false,by rw [if_neg (by omega)], ?_,.inr ⟨rfl,rfl,rfl⟩⟩;cases decide (v.an=6)<;>rfl
theorem Jv {n:Nat}{va:af}(h:Rl (n+1) va va) (hn:n<=1099511627776) (d:ak) (li:Bool) (c:Int){m:Nat}{v w:af}(hv:Rl m v w) :
  ∃b,p7 ⟨d,va,li,c⟩ v=some b/\mD ⟨d,va,li,c,0⟩ w=some b:=by
 cases m with
 | zero=>exact hv.elim
 | succ m =>
  obtain⟨h1,_,f,_⟩:=hv;unfold p7 mD;simp only;rw [<- h1,<- f];obtain⟨x,y,b,g,i,_⟩:=DQ h hn v.bg;rw [g,i];cases li<;>cases hk:decide (v.an=7)<;>exact⟨_,rfl,rfl⟩
theorem Tw {n:Nat}(h:n<256):IntKind.wrap .u8 (n:Int)=(n:Int):=by
 have:(n:Int) % 256=n:=by omega
 simp [IntKind.wrap,IntKind.bits,IntKind.signed]; omega
theorem Jw (k:Nat):nA (⟨false,[((48+k:Nat):Int)]⟩:Sl Int)=[UInt8.ofNat (48+k)]:=by
 show [UInt8.ofNat ((48+k:Nat):Int).toNat]=_;rw [Int.toNat_natCast]
theorem Tx:∀(f u:Nat),u<10 ^ f->(Lib.decDigits u).length<=f+1:=by
 intro f;induction f with
 | zero =>
  intro u hu;have:u=0:=by simpa using hu
  subst this; rw [Lib.decDigits]; simp
 | succ f b =>
  intro u hu;rw [Lib.decDigits]
  split
  ·simp
  ·have:=b (u / 10) (by rw [Nat.pow_succ] at hu; omega);simp; omega
theorem y7 {u:Nat}(h:u<=9223372036854775808):(Lib.decDigits u).length<=21:=Tx 20 u (by omega)
theorem Ty {n:Int}(h0 : -9223372036854775808<=n) (h1:n<=9223372036854775807):(Lib.itoa n).length<=22:=by
 unfold Lib.itoa
 split
 ·have:=y7 (u:=n.natAbs) (by omega); simp; omega
 ·have:=y7 (u:=n.toNat) (by omega); omega
theorem Tz:∀(f u:Nat),u<10 ^ f->u<=9223372036854775808->f<=30->∀m,f+1<=m->nR m (-(u:Int))=some (Lib.decDigits u):=by
 intro f;induction f with
 | zero =>
  intro u hu g i m hm;have:u=0:=by simpa using hu
  subst this;obtain⟨m,rfl⟩:∃k,m=k+1:=⟨m-1,by omega⟩;rw [Lib.decDigits]; rfl
 | succ f j =>
  intro u hu g i m hm;obtain⟨m,rfl⟩:∃k,m=k+1:=⟨m-1,by omega⟩;have h1:Int.tmod (-(u:Int)) 10 = -((u % 10:Nat):Int):=by rw [Int.neg_tmod]; rfl
  have l:Int.tdiv (-(u:Int)) 10 = -((u / 10:Nat):Int):=by rw [Int.neg_tdiv]; rfl
  rw [nR,h1,l,Fy (by omega),oB];have o:(48:Int) - -((u % 10:Nat):Int)=((48+u % 10:Nat):Int):=by omega
  rw [o,Tw (by omega),Lib.decDigits];by_cases b:u<10
  ·rw [dif_pos b,show decide ((-10:Int) < -(u:Int))=true from dT (by omega),cond_true,Nat.mod_eq_of_lt b,Jw]
  ·rw [dif_neg b,show decide ((-10:Int) < -(u:Int))=false from dF (by omega),cond_false,IntWalk.i64_in _ (by omega),j (u / 10) (by rw [Nat.pow_succ] at hu; omega) (by omega) (by omega) m (by omega),oB];have hl:=y7 (u:=u / 10) (by omega);rw [Jw,di (by simp; omega),oB]
theorem TB {n:Int}(h0 : -9223372036854775808<=n) (h1:n<=9223372036854775807):qZ n=some (Lib.itoa n):=by
 unfold qZ xM;have b:∀u:Nat,u<=9223372036854775808->nR F0 (-(u:Int))=some (Lib.decDigits u):=fun u hu=>Tz 20 u (by omega) hu (by omega) F0 (by rw [fK]; omega);by_cases hn:n<0
 ·obtain⟨u,rfl⟩:∃u:Nat,n = -(u:Int):=⟨n.natAbs,by omega⟩;rw [show decide (-(u:Int)<0)=true from dT hn,cond_true,b u (by omega),oB];have hl:=y7 (u:=u) (by omega);rw [di (by simp; omega),oB];unfold Lib.itoa; rw [if_pos hn,show (-(u:Int)).natAbs=u by omega]; rfl
 ·obtain⟨u,rfl⟩:∃u:Nat,n=(u:Int):=⟨n.natAbs,by omega⟩;rw [show decide ((u:Int)<0)=false from dF hn,cond_false,IntWalk.i64_in _ (by omega),show (0:Int)-(u:Int) = -(u:Int) by omega,b u (by omega),oB];unfold Lib.itoa; rw [if_neg hn,Int.toNat_natCast]
theorem TC {n:Int}(h0 : -9223372036854775808<=n) (h1:n<=9223372036854775807):rG n=some (Lib.itoa n):=by
 unfold rG CT vW;rw [if_pos ⟨h0,h1,by have:=Ty h0 h1; unfold eW; omega⟩]; rfl
def wz (s:Bs):af:=af.mk (3:Int) (0:Int) s true ([]) (Sl.nil:Sl Bs)
theorem TD (s:Bs):Rl 1 (wz s) (wz s):=⟨rfl,⟨rfl,by show _<=(0:Int); decide,by show (0:Int)<=_; decide⟩,rfl,rfl,fun _=>rfl,by show 0<=_; omega,by show 0<=_; omega,fun _=>⟨rfl,rfl,rfl⟩,.nil⟩
def y8 (n:Nat) (d:ak) (va:af) (li:Bool) (c:Int) (p:Option (af×Int)) (q:Option (af×Z4)):Prop :=
 (∃x y k',p=some (x,23)/\q=some (y,k')/\k'.cH=23)\/(∃x y,p=some (x,0)/\q=some (y,⟨d,va,li,c,0⟩)/\Rl n x y)
theorem uF (d:ak) (va:af) (li:Bool) (c e:Int):eM ⟨d,va,li,c,0⟩ e=⟨d,va,li,c,e⟩:=rfl
theorem TE {n:Nat}{v w:af}(h:Rl (n+1) v w) (d:ak) (va:af) (li:Bool) (c:Int) (s:Bs) (k:cC s=true) :
  y8 (n+1) d va li c (ox ⟨d,va,li,c⟩ s v) (iz ⟨d,va,li,c,0⟩ s w):=by
 obtain⟨h1,j,r,_⟩:=id h;have l:qZ v.bl=some (Lib.itoa v.bl):=TB j.2.1 j.2.2;have m:rG v.bl=some (Lib.itoa v.bl):=TC j.2.1 j.2.2;have o:vV (Lib.itoa v.bl)=wz (Lib.itoa v.bl):=rfl;have p:Rl (n+1) (wz (Lib.itoa v.bl)) (wz (Lib.itoa v.bl)):=(TD _).mono (by omega);unfold ox iz;rw [<- h1,<- j.1];simp only [Ab.on,uF,l,m,o,oB]
 unfold cC at k;cases b:(s==([73,110,116]:Bs))
 ·cases f:(s==([83,116,114,105,110,103]:Bs))
  ·cases g:(s==([66,111,111,108,101,97,110]:Bs))
   ·cases i:(s==([73,68]:Bs))
    ·rw [b,f,g,i] at k; cases k
    ·by_cases k2:v.an=2
     ·simp only [k2,decide_true,cond_true,cond_false,Bool.false_and,Bool.and_true,Bool.true_and,oB];exact .inr ⟨_,_,rfl,rfl,p⟩
     ·by_cases k3:v.an=3
      ·simp [k3];exact .inr ⟨_,_,rfl,rfl,h⟩
      ·simp [k2,k3];exact .inl ⟨_,_,_,rfl,rfl,rfl⟩
   ·by_cases k1:v.an=1
    ·simp [k1];exact .inr ⟨_,_,rfl,rfl,h⟩
    ·simp [k1];have i:(s==([73,68]:Bs))=false:=by
      rw [beq_iff_eq] at g; rw [g]; rfl
     simp [i];exact .inl ⟨_,_,_,rfl,rfl,rfl⟩
  ·have g:(s==([66,111,111,108,101,97,110]:Bs))=false:=by rw [beq_iff_eq] at f; rw [f]; rfl
   have i:(s==([73,68]:Bs))=false:=by rw [beq_iff_eq] at f; rw [f]; rfl
   by_cases k3:v.an=3
   ·simp [k3];exact .inr ⟨_,_,rfl,rfl,h⟩
   ·simp [k3,g,i];exact .inl ⟨_,_,_,rfl,rfl,rfl⟩
 ·have f:(s==([83,116,114,105,110,103]:Bs))=false:=by rw [beq_iff_eq] at b; rw [b]; rfl
  have g:(s==([66,111,111,108,101,97,110]:Bs))=false:=by rw [beq_iff_eq] at b; rw [b]; rfl
  have i:(s==([73,68]:Bs))=false:=by rw [beq_iff_eq] at b; rw [b]; rfl
  by_cases k2:v.an=2<;>by_cases k3:(-2147483648:Int)<=v.bl<;>by_cases q:v.bl<(2147483648:Int)<;>simp [k2,k3,q,f,g,i];all_goals first
   | exact .inr ⟨_,_,rfl,rfl,h⟩
   | exact .inl ⟨_,_,_,rfl,rfl,rfl⟩
theorem contains_eq (b:Sl Z9) (p:Z9->Bool):p6 b p=b.l.any p:=by
 have aux:∀(l:List Z9) (i:Nat),(l.any p=true->∃j:Nat,lU p l i=Sum.inr (j:Int))/\(l.any p=false->lU p l i=Sum.inl ()):=by
  intro l;induction l with
  | nil=>intro i; exact⟨fun h=>(by cases h),fun _=>rfl⟩
  | cons a r f =>
   intro i;rw [lU,List.any_cons];simp only [Ab.on];cases p a with
   | true=>exact⟨fun _=>⟨i,rfl⟩,fun h=>(by cases h)⟩
   | false=>simpa using f (i+1)
 unfold p6 vF;simp only [Ab.on];cases h:b.l.any p with
 | true=>obtain⟨j,e⟩:=(aux b.l 0).1 h; rw [e]; exact dT (by show (0:Int)<=(j:Int); omega)
 | false=>rw [(aux b.l 0).2 h]; rfl
theorem TF (w:Z4) (x:af) (l:List Z9):iP w x l=(if l.any (fun m=>m.aa==x.bg) then Sum.inr (af.mk (4:Int) (0:Int) x.bg true ([]) (Sl.nil:Sl Bs),w) else Sum.inl ()):=by
 induction l with
 | nil=>rfl
 | cons a r b =>
  rw [iP,List.any_cons];simp only [Ab.on];cases a.aa==x.bg with
  | true=>rfl
  | false=>simpa using b
theorem TG {s:Bs}(b:cC s=false):(s==([73,110,116]:Bs))=false/\(s==([83,116,114,105,110,103]:Bs))=false/\(s==([66,111,111,108,101,97,110]:Bs))=false/\(s==([73,68]:Bs))=false:=by
 unfold cC at b;simp only [Bool.or_eq_false_iff] at b;exact⟨b.1.1.1,b.1.1.2,b.1.2,b.2⟩
theorem TH {n:Nat}{v w:af}(h:Rl (n+1) v w) (d:ak) (va:af) (li:Bool) (c:Int) (s:Bs) (j:cC s=false) :
  y8 (n+1) d va li c (ox ⟨d,va,li,c⟩ s v) (some (iA ⟨d,va,li,c,0⟩ (aT d.aq.l s).1 w)):=by
 obtain⟨k,o,p,q⟩:=TG j;obtain⟨h1,r,t,E,u,y,z,B,F⟩:=id h;unfold ox iA vX;rw [<- h1];simp only [k,o,p,q,Ab.on,uF,cond_false,iq,contains_eq,TF,<- t];have i:∀x:af,x.an=4->x.bl=v.bl->x.bg=v.bg->x.aD.l=v.aD.l->x.aN=v.aN->(v.an=3\/v.an=4)->Rl (n+1) x (af.mk (4:Int) (0:Int) v.bg true ([]) (Sl.nil:Sl Bs)):=by
  intro x a b c' g e hk;obtain⟨g1,g2,g3⟩:=B hk;refine⟨a,⟨by rw [b,g1]; rfl,by rw [b]; exact r.2⟩,c', ?_, ?_, ?_, ?_,fun _=>⟨by rw [b,g1],by rw [g,g2],by rw [e,g3]⟩, ?_⟩
  ·rw [e,g3]; rfl
  ·rw [e]; exact u
  ·rw [e]; exact y
  ·rw [g]; exact z
  ·rw [g,g2]; exact .nil
 by_cases f:v.an=4
 ·simp only [f,decide_true,show decide ((4:Int)=3)=false from rfl,Bool.false_and,cond_false,cond_true,Bool.true_and,Bool.true_or];cases C:(aT d.aq.l s).1.aG.l.any (fun m=>m.aa==v.bg) with
  | true=>exact .inr ⟨_,_,rfl,rfl,i v f rfl rfl rfl rfl (.inr f)⟩
  | false=>exact .inl ⟨_,_,_,rfl,rfl,rfl⟩
 ·by_cases k3:v.an=3
  ·cases li with
   | true =>
    simp only [k3,decide_true,show decide ((3:Int)=4)=false from rfl,Bool.not_true,Bool.and_false,cond_false,Bool.false_and,Bool.false_or,Bool.not_false,cond_true];exact .inl ⟨_,_,_,rfl,rfl,rfl⟩
   | false =>
    simp only [k3,decide_true,Bool.not_false,Bool.and_true,cond_true,Bool.or_true];have hk:(af.mk (4:Int) v.bl v.bg v.aD.nl v.aD.l v.aN).an=4:=rfl;have ht:(af.mk (4:Int) v.bl v.bg v.aD.nl v.aD.l v.aN).bg=v.bg:=rfl;simp only [hk,ht,decide_true,cond_true,Bool.true_and];cases C:(aT d.aq.l s).1.aG.l.any (fun m=>m.aa==v.bg) with
    | true=>exact .inr ⟨_,_,rfl,rfl,i _ rfl rfl rfl rfl rfl (.inl k3)⟩
    | false=>exact .inl ⟨_,_,_,rfl,rfl,rfl⟩
  ·simp only [k3,f,decide_false,Bool.false_and,cond_false,Bool.not_false,cond_true,Bool.or_false];exact .inl ⟨_,_,_,rfl,rfl,rfl⟩
def y9 (n:Nat) (f:az) (a3:Int) (m:Z1) (g:af):Option (af×Int×Z1) :=
 (ov m a3).bind fun b=>bif (!decide (b.1=(0:Int))) then(some (zv,b.1,b.2)) else(bif (decide (g.an=(0:Int))) then(bif ig f then(some (zv,(23:Int),b.2)) else(some (zv,(0:Int),b.2))) else((ot f).bind fun k=>bif k.2 then(((rH n) b.2 k.1 g a3).bind fun i=>some (i.1,i.2.1,i.2.2)) else(bif (((eT b.2.Fd f.aa).2&&(!(bif (eT b.2.Fd f.aa).2 then cC f.aa else false)))&&(decide ((eT b.2.Fd f.aa).1.an=(5:Int)))) then(((rI n) b.2 (eT b.2.Fd f.aa).1 g a3).bind fun j=>some (j.1,j.2.1,j.2.2)) else((ox b.2 f.aa g).bind fun l=>some (l.1,l.2,b.2)))))
theorem TJ (n:Nat) (a0:Z1) (b:az) (a2:af) (a3:Int):eZ (n+1) a0 b a2 a3 =
  bif (!gm a0.Fd b.aa) then(some (zv,(10:Int),a0)) else(bif ((decide (a2.an=(7:Int)))&&a0.k_) then((l_ a0.ep a2.bg).bind fun f=>bif (!decide (f.1.an=(0:Int))) then((yz a0 f.1 a3).bind fun g=>bif (!decide (g.1=(0:Int))) then(some (zv,g.1,g.2)) else(some (f.1,(0:Int),g.2))) else(y9 n b a3 a0 f.1)) else(y9 n b a3 a0 a2)):=by
 rw [eZ]; rfl
def y_ (n:Nat) (f:az) (a3:Int) (m:Z4) (g:af):Option (af×Z4) :=
 (iO m a3).bind fun b=>bif (!decide (b.cH=(0:Int))) then(some (zv,b)) else(bif (decide (g.an=(0:Int))) then(some (zv,bif gj f then eM b (23:Int) else b)) else((jx f).bind fun i=>bif i.2 then(((iQ n) b i.1 g a3).bind fun j=>some (j.1,j.2)) else(bif gJ f.aa then((iz b f.aa g).bind fun k=>some (k.1,k.2)) else(bif (decide ((eA b.Fd f.aa).1.an=(4:Int))) then(some ((iA b (eA b.Fd f.aa).1 g).1,(iA b (eA b.Fd f.aa).1 g).2)) else(((iR n) b (eA b.Fd f.aa).1 g a3).bind fun l=>some (l.1,l.2))))))
theorem Jx (n:Nat) (a0:Z4) (b:az) (a2:af) (a3:Int):dY (n+1) a0 b a2 a3 =
  bif (!gR a0.Fd b.aa) then(some (zv,eM a0 (10:Int))) else(bif (a0.eO&&(decide (a2.an=(7:Int)))) then((jy a0.ep a2.bg).bind fun f=>bif (!decide (f.1.an=(0:Int))) then((xL a0 f.1 a3).bind fun g=>some (g.1,g.2)) else(y_ n b a3 a0 zv)) else(y_ n b a3 a0 a2)):=by
 rw [dY]; rfl
def jK (M:Nat) (d:ak) (va:af) (li:Bool) (p:Option (af×Int×Z1)) (q:Option (af×Z4)):Prop :=
 (∃e x c' y k',e≠0/\p=some (x,e,c')/\q=some (y,k')/\k'.cH=e)\/(∃m x y,0<=m/\m<=4096/\p=some (x,0,⟨d,va,li,m⟩)/\q=some (y,⟨d,va,li,m,0⟩)/\Rl M x y)
theorem jK.eta {M:Nat}{d:ak}{va:af}{li:Bool}{p:Option (af×Int×Z1)}{q:Option (af×Z4)}(h:jK M d va li p q) :
  jK M d va li (p.bind fun x=>some (x.1,x.2.1,x.2.2)) (q.bind fun x=>some (x.1,x.2)):=by
 have b:(p.bind fun x=>some (x.1,x.2.1,x.2.2))=p:=by cases p<;>rfl
 have f:(q.bind fun x=>some (x.1,x.2))=q:=by cases q<;>rfl
 rw [b,f]; exact h
theorem y8.Jy {n M:Nat}{d:ak}{va:af}{li:Bool}{c:Int}{p:Option (af×Int)}{q:Option (af×Z4)}(h:y8 n d va li c p q) (hc:0<=c/\c<=4096) (hm:n<=M) :
  jK M d va li (p.bind fun x=>some (x.1,x.2,(⟨d,va,li,c⟩:Z1))) q:=by
 rcases h with ⟨x,y,k',b,f,g⟩|⟨x,y,b,f,g⟩
 ·exact .inl ⟨23,x,_,y,k',by decide,by rw [b]; rfl,f,g⟩
 ·exact .inr ⟨c,x,y,hc.1,hc.2,by rw [b]; rfl,f,g.mono hm⟩
def rZ (N:Nat) (x:Z8):Prop:=dJ x.aA.aF/\(x.bY=true->Rl N x.cB x.cB)
def jL (N:Nat) (t:aj):Prop:=t.aL.l.length<=1048576/\∀x∈t.aL.l,rZ N x
def DR (N M:Nat) (d:ak) (n m:Nat) (b:Int):Prop:=∀(va:af) (li:Bool) (c:Int) (t f:az) (v w:af),Rl (N+1) va va->0<=c/\c<=4096->dJ t.aF->rX t f->Rl N v w ->
 jK M d va li (rH n ⟨d,va,li,c⟩ t v b) (iQ m ⟨d,va,li,c,0⟩ f w b)
def DS (N M:Nat) (d:ak) (n m:Nat) (b:Int):Prop:=∀(va:af) (li:Bool) (c:Int) (t:aj) (v w:af),Rl (N+1) va va->0<=c/\c<=4096->jL N t->Rl N v w ->
 jK M d va li (rI n ⟨d,va,li,c⟩ t v b) (iR m ⟨d,va,li,c,0⟩ t w b)
theorem Jz {N M n m:Nat}{d:ak}{b:Int}(p:N<=M) (z:1<=M) (B:∀s,jL N (aT d.aq.l s).1) (hl:b<=24->DR N M d n m b) (C:b<=24->DS N M d n m b){va:af}{li:Bool}{c:Int}{t f:az}{v w:af}
  (q:Rl (N+1) va va) (hc:0<=c/\c<=4096) (ht:dJ t.aF) (he:rX t f) (hk:v.an=w.an) (hv:v.an≠0->Rl N v w) (hi:gm d t.aa=true) :
  jK M d va li (y9 n t b ⟨d,va,li,c⟩ v) (y_ m f b ⟨d,va,li,c,0⟩ w):=by
 unfold y9 y_;rcases Js d va li c b hc with ⟨e,c',k',he,j,g,r⟩|⟨u,J,j,g⟩
 ·rw [j,g];exact .inl ⟨e,zv,c',zv,k',he,by simp [he],by simp [r,he],r⟩
 ·rw [j,g];simp only [oB,decide_true,Bool.not_true,cond_false];rw [<- hk,uD,uB,<- he.2];by_cases k:v.an=0
  ·simp only [k,decide_true,cond_true,uF];cases eB t.aF.l with
   | true=>exact .inl ⟨23,_,_,_,_,by decide,rfl,rfl,rfl⟩
   | false=>exact .inr ⟨c+1,_,_,by omega,by omega,rfl,rfl,rY.mono z⟩
  ·have hv:=hv k;simp only [k,decide_false,cond_false];have hlen:f.aF.l.length<=1048576:=by rw [<- he.2]; exact ht.2
   obtain⟨x,ex,hx⟩:=To (t:=f) hlen;rw [ex,Dt ht,<- he.jE];simp only [oB];cases E:fR (b8 t.aF).l with
   | true =>
    simp only [cond_true];refine(hl u va li (c+1) _ _ v w q (by omega) (Ds ht) ?_ hv).eta;have h1:=hx (by rw [<- he.jE]; exact E);exact⟨he.1.trans h1.1,by rw [<- h1.2]; show (b8 t.aF).l.drop 1=(b8 f.aF).l.drop 1; rw [he.jE]⟩
   | false =>
    simp only [cond_false];rw [DM,iq,<- he.1];have F:gJ t.aa=cC t.aa:=rfl;rw [F];obtain⟨N,rfl⟩:∃G,N=G+1:=by cases N with|zero=>exact hv.elim|succ N=>exact⟨N,rfl⟩
    cases i:cC t.aa with
    | true =>
     have:((aT d.aq.l t.aa).2&&!(bif (aT d.aq.l t.aa).2 then true else false))=false:=by cases (aT d.aq.l t.aa).2<;>rfl
     simp only [this,Bool.false_and,cond_false,cond_true];have:=(TE hv d va li (c+1) t.aa i).Jy (M:=M) (by omega) p;have g:((iz ⟨d,va,li,c+1,0⟩ t.aa w).bind fun y=>some (y.1,y.2))=iz ⟨d,va,li,c+1,0⟩ t.aa w:=by
      cases iz ⟨d,va,li,c+1,0⟩ t.aa w<;>rfl
     rw [g]; exact this
    | false =>
     simp only [cond_false];have o:(aT d.aq.l t.aa).2=true:=by
      cases o:(aT d.aq.l t.aa).2 with
      | true=>rfl
      | false =>
       have:=Jq hi i;rw [DN _ _ o] at this;rcases this with h|h<;>cases h
     rw [o];rcases Jq hi i with H|I
     ·simp only [H,decide_true,show decide ((4:Int)=5)=false from rfl,Bool.and_false,cond_false,cond_true];exact(TH hv d va li (c+1) t.aa i).Jy (M:=M) (by omega) p
     ·simp only [I,decide_true,show decide ((5:Int)=4)=false from rfl,cond_true,cond_false,Bool.not_false,Bool.and_true,Bool.and_self];exact(C u va li (c+1) _ v w q (by omega) (B _) hv).eta
theorem TL {M:Nat}{x y r f:af}{b b':Bool}(h:Rl (M+1) x y) (hr:Rl M r f) (g:x.an≠3) (i:x.an≠4) (j:x.aD.l.length+1<=bB) :
  Rl (M+1) (af.mk x.an x.bl x.bg b (x.aD.l++[r]) x.aN) (af.mk y.an y.bl y.bg b' (y.aD.l++[f]) y.aN):=by
 obtain⟨k,a2,a3,a4,a5,m,o,p,a9⟩:=h;exact⟨k,a2,a3,a4,a5,m,by show (x.aD.l++[r]).length<=bB; simpa using j,fun h=>(h.elim g i).elim,a9.append (.cons hr .nil)⟩
def oL (N M:Nat) (d:ak) (n m:Nat) (b:Int):Prop:=∀(va:af) (li:Bool) (c:Int) (t f:az) (v w:af),Rl (N+1) va va->0<=c/\c<=4096->dJ t.aF->rX t f->Rl N v w ->
 jK M d va li (eZ n ⟨d,va,li,c⟩ t v b) (dY m ⟨d,va,li,c,0⟩ f w b)
theorem TM (b:az) (a3:Int) (k:Z4->az->af->Int->Option (af×Z4)) (l:List af) (w:Z4) (x:af) (h:w.cH≠0):gU b a3 k l w x=some (w,x):=by
 cases l with
 | nil=>rfl
 | cons a t=>rw [gU]; simp [h]
theorem TN {N M n m:Nat}{d:ak}{f:Int}(bR:oL N M d n m (f+1)) (F:0<=f/\f<=1000){va:af}{li:Bool}{t g:az}(w:Rl (N+1) va va) (ht:dJ t.aF) (he:rX t g) :
  ∀(l l':List af) (c:Int) (x y:af),aY (Rl N) l l'->0<=c/\c<=4096->Rl (M+1) x y->x.an≠3->x.an≠4->x.aD.l.length+l.length<=bB ->
   (∃e c' k' x' i,e≠0/\mY t f (eZ n) l ⟨d,va,li,c⟩ x=some (Sum.inr (x',e,c'))/\gU g f (dY m) l' ⟨d,va,li,c,0⟩ y=some (k',i)/\k'.cH=e) \/
   (∃c' x' i,0<=c'/\c'<=4096/\mY t f (eZ n) l ⟨d,va,li,c⟩ x=some (Sum.inl (⟨d,va,li,c'⟩,x'))/\gU g f (dY m) l' ⟨d,va,li,c,0⟩ y=some (⟨d,va,li,c',0⟩,i)/\Rl (M+1) x' i):=by
 intro l l' c x y hl;induction hl generalizing c x y with
 | nil=>intro hc hx _ _ _; exact .inr ⟨c,x,y,hc.1,hc.2,rfl,rfl,hx⟩
 | @cons a b G H z I B =>
  intro hc hx s u k;simp only [List.length_cons] at k;have J:y.aD.l.length=x.aD.l.length:=hx.2.2.2.2.2.2.2.2.length.symm;rw [mY,gU];simp only [Ab.on,fP (show -9223372036854775808<=f+1/\f+1<=9223372036854775807 by omega),oB,decide_true,cond_true];have C:∀r:af,aW 80 x.aD (⟨false,[r]⟩:Sl af)=some ⟨x.aD.nl&&[r].isEmpty,x.aD.l++[r]⟩:=fun r=>qp (by unfold bB at k; simp; omega)
  have v:∀r:af,aW 80 y.aD (⟨false,[r]⟩:Sl af)=some ⟨y.aD.nl&&[r].isEmpty,y.aD.l++[r]⟩:=fun r=>qp (by unfold bB at k; simp; omega);rcases bR va li c t g a b w hc ht he z with ⟨e,r,c',E,k',o,p,q,j⟩|⟨c',r,E,g1,g2,p,q,j⟩
  ·left
   rw [p,q,oB,oB,v,oB,TM _ _ _ _ _ _ (by rw [j]; exact o)];exact⟨e,c',k',_,_,o,by simp [o]; rfl,rfl,j⟩
  ·rw [p,q,oB,oB,C,v,oB,oB];simp only [decide_true,Bool.not_true,cond_false];exact B c' _ _ ⟨g1,g2⟩ (TL hx j s u (by omega)) s u (by show (x.aD.l++[r]).length+_<=bB; simp; omega)
theorem TO {N M n m:Nat}{d:ak}{b:Int}(bR:oL N M d n m (b+1)) (r:0<=b/\b<=1000):DR N (M+1) d (n+1) (m+1) b:=by
 intro va li c t u v w x hc ht he hv;have h0:Rl (M+1) (af.mk (5:Int) (0:Int) ([]:Bs) true ([]) (Sl.nil:Sl Bs)) (af.mk (5:Int) (0:Int) ([]:Bs) true ([]) (Sl.nil:Sl Bs)) :=
  ⟨rfl,⟨rfl,by show _<=(0:Int); decide,by show (0:Int)<=_; decide⟩,rfl,rfl,fun _=>rfl,by show 0<=_; omega,by show 0<=_; omega,fun h=>(by rcases h with h|h<;>cases h),.nil⟩
 have main:∀(s g:Sl af),aY (Rl N) s.l g.l->s.l.length<=bB->jK (M+1) d va li
   ((mY t b (eZ n) s.l ⟨d,va,li,c⟩ (af.mk (5:Int) (0:Int) ([]:Bs) true ([]) (Sl.nil:Sl Bs))).bind fun y=>match y with|Sum.inl p=>(on ((p.1,p.2)) fun f=>some (f.2,(0:Int),f.1))|Sum.inr z=>(some z))
   ((gU u b (dY m) g.l ⟨d,va,li,c,0⟩ (af.mk (5:Int) (0:Int) ([]:Bs) true ([]) (Sl.nil:Sl Bs))).bind fun q=>on ((q.1,q.2)) fun f=>some (f.2,f.1)):=by
  intro s g B E;rcases TN bR r (li:=li) x ht he s.l g.l c _ _ B hc h0 (by decide) (by decide) (by show 0+_<=_; omega) with ⟨e,c',k',x',i,C,j,k,o⟩|⟨c',x',i,g1,g2,j,k,o⟩
  ·rw [j,k]; exact .inl ⟨e,x',c',i,k',C,rfl,rfl,o⟩
  ·rw [j,k]; exact .inr ⟨c',x',i,g1,g2,rfl,rfl,o⟩
 rw [rH,iQ];have hk:v.an=w.an:=by cases N with|zero=>exact hv.elim|succ N=>exact hv.1
 rw [<- hk];by_cases k5:v.an=5
 ·simp only [k5,decide_true,Bool.not_true,cond_false,cond_true];cases N with
  | zero=>exact hv.elim
  | succ N=>exact main v.aD w.aD (hv.2.2.2.2.2.2.2.2.imp fun _ _ h=>h.mono (by omega)) hv.2.2.2.2.2.2.1
 ·simp only [k5,decide_false,Bool.not_false,cond_false,cond_true];exact main ⟨false,[v]⟩ ⟨false,[w]⟩ (.cons hv .nil) (by show 1<=bB; unfold bB; omega)
def DT (N M:Nat) (d:ak) (n m:Nat) (b:Int):Prop:=∀(va:af) (li:Bool) (c:Int) (x:Z8),0<=c/\c<=4096->rZ N x->x.bY=true ->
 jK M d va li (gX n ⟨d,va,li,c⟩ x b) (fV m ⟨d,va,li,c,0⟩ x.aA x.cB b)
theorem TP {N M n m:Nat}{d:ak}{j:Int}(bR:oL N M d n m j):DT N M d (n+1) (m+1) j:=by
 intro va li c x hc hx hh;rw [gX,fV];rcases bR zv true c x.aA x.aA x.cB x.cB (rY.mono (by omega)) hc hx.1 ⟨rfl,rfl⟩ (hx.2 hh) with ⟨e,r,c',g,k',k,b,f,i⟩|⟨c',r,g,g1,g2,b,f,i⟩
 ·unfold zv at b f;rw [b,f];exact .inl ⟨e,r,_,g,_,k,rfl,rfl,i⟩
 ·unfold zv at b f;rw [b,f];exact .inr ⟨c',r,g,g1,g2,rfl,rfl,i⟩
theorem TQ (t:aj) (l:List Bs) (w:Z4) (h:w.cH=22):ic t l w=w:=by
 induction l generalizing w with
 | nil=>rfl
 | cons a r b =>
  rw [ic];have:eM w 22=w:=by unfold eM; rw [h]; rfl
  simp only [Ab.on,this];cases (!(gQ t.aL a).2)<;>exact b w h
theorem TR (d:ak) (va:af) (li:Bool) (c:Int) (t:aj) (l:List Bs) :
  (oy ⟨d,va,li,c⟩ t l=Sum.inr (zv,22,⟨d,va,li,c⟩)/\ic t l ⟨d,va,li,c,0⟩=⟨d,va,li,c,22⟩) \/
  (oy ⟨d,va,li,c⟩ t l=Sum.inl ()/\ic t l ⟨d,va,li,c,0⟩=⟨d,va,li,c,0⟩):=by
 induction l with
 | nil=>exact .inr ⟨rfl,rfl⟩
 | cons a r b =>
  rw [oy,ic];simp only [Ab.on,uF,Tr,wq];cases h:(cQ t.aL.l a).2 with
  | true=>simpa using b
  | false =>
   left
   simp only [Bool.not_false,cond_true];exact⟨rfl,TQ t r _ rfl⟩
theorem TS (a0:Sl Z8) (i:Nat) (x:Z8) (hi:a0.l[i]?=some x) (t:a0.l.length<=1048576):∀(k f:Nat) (s:Nat),s+k=i->k<f ->
  lF a0 (i:Int) f (s:Int)=some (((a0.l.take i).drop s).any fun y=>y.aa==x.aa):=by
 have u:i<a0.l.length:=(List.getElem?_eq_some_iff.1 hi).1;intro k;induction k with
 | zero =>
  intro f s b j;obtain⟨f,rfl⟩:∃g,f=g+1:=⟨f-1,by omega⟩;rw [lF,show decide ((s:Int)<(i:Int))=false from dF (by omega),cond_false,List.drop_of_length_le (by simp; omega)]; rfl
 | succ k m =>
  intro f s b j;obtain⟨f,rfl⟩:∃g,f=g+1:=⟨f-1,by omega⟩;have o:s<a0.l.length:=by omega
  rw [lF,show decide ((s:Int)<(i:Int))=true from dT (by omega),cond_true];have p:dh a0.l (s:Int)=some a0.l[s]:=by unfold dh; rw [if_pos (by omega),show ((s:Int).toNat)=s by omega,List.getElem?_eq_getElem o]
  have q:dh a0.l (i:Int)=some x:=by unfold dh; rw [if_pos (by omega),show ((i:Int).toNat)=i by omega,hi]
  rw [p,q,oB,oB];have r:(a0.l.take i).drop s=a0.l[s]::(a0.l.take i).drop (s+1):=by
   rw [List.drop_eq_getElem_cons (by simp; omega)]; simp
  rw [r,List.any_cons,fP (by omega),oB];cases a0.l[s].aa==x.aa with
  | true=>rfl
  | false=>rw [cond_false,Bool.false_or]; exact m f (s+1) (by omega) (by omega)
theorem TT (a0:Sl Z8) (i:Nat) (x:Z8) (hi:a0.l[i]?=some x) (b:a0.l.length<=1048576):q6 a0 (i:Int)=some (cQ (a0.l.take i) x.aa).2:=by
 have f:i<a0.l.length:=(List.getElem?_eq_some_iff.1 hi).1;unfold q6 vj;have:=TS a0 i x hi b i F0 0 (by omega) (by rw [fK]; omega);rw [show ((0:Int))=((0:Nat):Int) from rfl,this,List.drop_zero];unfold cQ
 congr 1
 cases h:(a0.l.take i).find? (fun t=>t.aa==x.aa) with
 | none=>rw [List.find?_eq_none] at h; rw [List.any_eq_false]; exact h
 | some t=>exact List.any_eq_true.2 ⟨t,List.mem_of_find?_eq_some h,by simpa using List.find?_some h⟩
theorem TU {M:Nat}{x y r f:af}{b b' k k':Bool}{nm:Bs}(h:Rl (M+1) x y) (hr:Rl M r f) (g:x.an≠3) (i:x.an≠4) (j:x.aD.l.length+1<=bB) (m:x.aN.l.length+1<=bB) (hk:k=false) :
  Rl (M+1) (af.mk x.an x.bl x.bg b (x.aD.l++[r]) ⟨k,x.aN.l++[nm]⟩) (af.mk y.an y.bl y.bg b' (y.aD.l++[f]) ⟨k',y.aN.l++[nm]⟩):=by
 obtain⟨o,a2,a3,a4,a5,p,q,s,a9⟩:=h;exact⟨o,a2,a3,by show x.aN.l++[nm]=y.aN.l++[nm]; rw [a4],fun e=>(by have e:k=true:=e; rw [hk] at e; cases e),by show (x.aN.l++[nm]).length<=bB; simpa using m,by show (x.aD.l++[r]).length<=bB; simpa using j,
  fun h=>(h.elim g i).elim,a9.append (.cons hr .nil)⟩
def wB (M:Nat) (d:ak) (va:af) (li:Bool) (p:Option (((Z1×af)) ⊕ ((af×Int×Z1)))) (q:Option (Z4×af)):Prop :=
 (∃e c' k' x' b,e≠0/\p=some (Sum.inr (x',e,c'))/\q=some (k',b)/\k'.cH=e) \/
 (∃c' x' b,0<=c'/\c'<=4096/\p=some (Sum.inl (⟨d,va,li,c'⟩,x'))/\q=some (⟨d,va,li,c',0⟩,b)/\Rl M x' b)
def qq (b:af) (nm:Bs) (rec:Z1->af->Option (((Z1×af)) ⊕ ((af×Int×Z1)))) (e:Int) (c:Z1) (z:af):Option (((Z1×af)) ⊕ ((af×Int×Z1))) :=
 bif (!decide (e=(0:Int))) then(some (Sum.inr (zv,e,c))) else((aW 16 b.aN (⟨false,[nm]⟩:Sl Bs)).bind fun g=>(aW 80 b.aD (⟨false,[z]⟩:Sl af)).bind fun f=>rec c (af.mk b.an b.bl b.bg f.nl f.l g))
def qs (b:af) (nm:Bs) (w:Z4) (z:af):Option (Z4×af) :=
 (aW 16 b.aN (⟨false,[nm]⟩:Sl Bs)).bind fun g=>(aW 80 b.aD (⟨false,[z]⟩:Sl af)).bind fun f=>some (w,(af.mk b.an b.bl b.bg f.nl f.l g))
theorem TV {M:Nat}{d:ak}{va:af}{li:Bool}{x y:af}{nm:Bs}{m:Z1->af->Option (((Z1×af)) ⊕ ((af×Int×Z1)))}{rr:Z4->af->Option (Z4×af)}
  (hx:Rl (M+1) x y) (u:x.an≠3) (v:x.an≠4) (f:x.aD.l.length+1<=bB) (g:x.aN.l.length+1<=bB)
  (B:∀w z,w.cH≠0->rr w z=some (w,z))
  (C:∀(c:Int) (x' o:af),0<=c/\c<=4096->Rl (M+1) x' o->x'.an=x.an->x'.aD.l.length=x.aD.l.length+1->x'.aN.l.length=x.aN.l.length+1->wB (M+1) d va li (m ⟨d,va,li,c⟩ x') (rr ⟨d,va,li,c,0⟩ o))
  {p:Option (af×Int×Z1)}{q:Option (af×Z4)}(h:jK M d va li p q) :
  wB (M+1) d va li (p.bind fun r=>qq x nm m r.2.1 r.2.2 r.1) ((q.bind fun r=>qs y nm r.2 r.1).bind fun z=>rr z.1 z.2):=by
 have I:y.aD.l.length=x.aD.l.length:=hx.2.2.2.2.2.2.2.2.length.symm;have E:y.aN.l=x.aN.l:=hx.2.2.2.1.symm;have F:∀r:af,aW 80 x.aD (⟨false,[r]⟩:Sl af)=some ⟨x.aD.nl&&[r].isEmpty,x.aD.l++[r]⟩:=fun r=>qp (by unfold bB at f; simp; omega);have s:∀r:af,aW 80 y.aD (⟨false,[r]⟩:Sl af)=some ⟨y.aD.nl&&[r].isEmpty,y.aD.l++[r]⟩:=fun r=>qp (by unfold bB at f; simp; omega)
 have G:aW 16 x.aN (⟨false,[nm]⟩:Sl Bs)=some ⟨x.aN.nl&&[nm].isEmpty,x.aN.l++[nm]⟩:=uZ (by omega) (by unfold bB at g; simp; omega);have t:aW 16 y.aN (⟨false,[nm]⟩:Sl Bs)=some ⟨y.aN.nl&&[nm].isEmpty,y.aN.l++[nm]⟩:=uZ (by omega) (by rw [E]; unfold bB at g; simp; omega);rcases h with ⟨e,r,c',H,k',i,j,k,b⟩|⟨c',r,H,g1,g2,j,k,b⟩
 ·left
  rw [j,k];unfold qq qs;simp only [oB,t,s];rw [B _ _ (by rw [b]; exact i)];exact⟨e,c',k',zv,_,i,by simp [i],rfl,b⟩
 ·rw [j,k];unfold qq qs;simp only [oB,t,s,G,F,decide_true,Bool.not_true,cond_false];exact C c' _ _ ⟨g1,g2⟩ (TU hx b u v f g (by simp)) rfl (by show (x.aD.l++[r]).length=_; simp) (by show (x.aN.l++[nm]).length=_; simp)
theorem JA (b:aj) (a2:af) (a3:Int) (k k2:Z4->az->af->Int->Option (af×Z4)) (l:List Z8) (i:Nat) (w:Z4) (x:af) (h:w.cH≠0):fQ b a2 a3 k k2 l i w x=some (w,x):=by
 cases l with
 | nil=>rfl
 | cons a t=>rw [fQ]; simp [h]
theorem TW (b:aj) (a2:af) (a3:Int) (f:Z1->az->af->Int->Option (af×Int×Z1)) (g:Z1->Z8->Int->Option (af×Int×Z1)) (h:Z8) (r:List Z8) (i:Nat) (c:Z1) (x:af) :
  fZ b a2 a3 f g (h::r) i c x=bif (l6 (⟨b.aL.nl,b.aL.l.take i⟩:Sl Z8) h.aa).2 then(fZ b a2 a3 f g r (i+1) c x) else
   ((l_ a2 h.aa).bind fun j=>aR (j.2) (p7 c j.1) false fun o =>
    bif (j.2&&(!o)) then((cG a3 (1:Int)).bind fun p=>(f c h.aA j.1 p).bind fun k=>qq x h.aa (fZ b a2 a3 f g r (i+1)) k.2.1 k.2.2 k.1)
    else(bif h.bY then((cG a3 (1:Int)).bind fun q=>(g c h q).bind fun m=>qq x h.aa (fZ b a2 a3 f g r (i+1)) m.2.1 m.2.2 m.1)
    else(bif ig h.aA then(qq x h.aa (fZ b a2 a3 f g r (i+1)) (22:Int) c af.zero) else(fZ b a2 a3 f g r (i+1) c x)))):=by
 rw [fZ]; rfl
theorem TX (f:aj) (a2:af) (a3:Int) (g j:Z4->az->af->Int->Option (af×Z4)) (h:Z8) (r:List Z8) (i:Nat) (w:Z4) (x:af) (hw:w.cH=0) :
  fQ f a2 a3 g j (h::r) i w x=((q6 f.aL ((i:Nat):Int)).bind fun o=>Option.bind (bif o then(some (w,x)) else
   ((jy a2 h.aa).bind fun b=>aR (b.2) (mD w b.1) false fun p =>
    bif (b.2&&(!p)) then((cG a3 (1:Int)).bind fun q=>(g w h.aA b.1 q).bind fun k=>qs x h.aa k.2 k.1)
    else(bif h.bY then((cG a3 (1:Int)).bind fun s=>(j w h.aA h.cB s).bind fun l=>qs x h.aa l.2 l.1)
    else(bif gj h.aA then(qs x h.aa (eM w (22:Int)) af.zero) else(some (w,x)))))) fun m=>fQ f a2 a3 g j r (i+1) m.1 m.2):=by
 rw [fQ];simp only [hw,decide_true,cond_true];rfl
theorem TY {N M n m:Nat}{d:ak}{f:Int}(O:N+1<=1099511627776) (bR:oL (N+1) M d n m (f+1)) (P:DT (N+1) M d n m (f+1)) (ah:0<=f/\f<=1000){va:af}{li:Bool}{t:aj}{v w:af}
  (C:Rl (N+2) va va) (ht:jL (N+1) t) (hv:Rl (N+1) v w) :
  ∀(l:List Z8) (i:Nat) (c:Int) (x y:af),t.aL.l.drop i=l->0<=c/\c<=4096->Rl (M+1) x y->x.an=6->x.aD.l.length+l.length<=1048576->x.aN.l.length+l.length<=1048576 ->
   wB (M+1) d va li (fZ t v f (eZ n) (gX n) l i ⟨d,va,li,c⟩ x) (fQ t w f (dY m) (fV m) l i ⟨d,va,li,c,0⟩ y):=by
 intro l;induction l with
 | nil=>intro i c x y _ hc hx _ _ _; exact .inr ⟨c,x,y,hc.1,hc.2,rfl,rfl,hx⟩
 | cons h r E =>
  intro i c x y o hc hx g Q R;simp only [List.length_cons] at Q R;have F:i<t.aL.l.length:=by
   rcases Nat.lt_or_ge i t.aL.l.length with c|c
   ·exact c
   ·rw [List.drop_of_length_le c] at o; cases o
  have s:=List.drop_eq_getElem_cons F;rw [o] at s;simp only [List.cons.injEq] at s;obtain⟨hh,hr⟩:=s;have G:t.aL.l[i]?=some h:=by rw [List.getElem?_eq_getElem F,hh]
  have H:rZ (N+1) h:=ht.2 h (List.mem_of_getElem? G);have u:x.an≠3:=by rw [g]; decide
  have I:x.an≠4:=by rw [g]; decide
  rw [TW,TX _ _ _ _ _ _ _ _ _ _ rfl,TT t.aL i h G ht.1,wq,oB];have skip:=E (i+1) c x y hr.symm hc hx g (by omega) (by omega);have S:∀(c:Int) (x' j:af),0<=c/\c<=4096->Rl (M+1) x' j->x'.an=x.an->x'.aD.l.length=x.aD.l.length+1->x'.aN.l.length=x.aN.l.length+1 ->
    wB (M+1) d va li (fZ t v f (eZ n) (gX n) r (i+1) ⟨d,va,li,c⟩ x') (fQ t w f (dY m) (fV m) r (i+1) ⟨d,va,li,c,0⟩ j) :=
   fun c x' j h1 U u I al=>E (i+1) c x' j hr.symm h1 U (u.trans g) (by omega) (by omega)
  have fin:∀{p q},jK M d va li p q->_:=fun {p q} h1=>TV (nm:=h.aa) (rr:=fun k z=>fQ t w f (dY m) (fV m) r (i+1) k z) (p:=p) (q:=q) hx u I (by unfold bB; omega) (by unfold bB; omega) (fun w z hw=>JA _ _ _ _ _ _ _ _ _ hw) S h1;have J:cG f (1:Int)=some (f+1):=fP (by omega);cases (cQ (t.aL.l.take i) h.aa).2 with
  | true=>simp only [cond_true,oB]; exact skip
  | false =>
   simp only [cond_false];obtain⟨W,X,b,Y,Z,ab⟩:=DQ hv (by omega) h.aa;rw [Y,Z,oB,oB];have rest:wB (M+1) d va li
     (bif h.bY then((cG f (1:Int)).bind fun ad=>(gX n ⟨d,va,li,c⟩ h ad).bind fun B=>qq x h.aa (fZ t v f (eZ n) (gX n) r (i+1)) B.2.1 B.2.2 B.1)
      else(bif ig h.aA then(qq x h.aa (fZ t v f (eZ n) (gX n) r (i+1)) (22:Int) ⟨d,va,li,c⟩ af.zero) else(fZ t v f (eZ n) (gX n) r (i+1) ⟨d,va,li,c⟩ x)))
     (Option.bind (bif h.bY then((cG f (1:Int)).bind fun ae=>(fV m ⟨d,va,li,c,0⟩ h.aA h.cB ae).bind fun K=>qs y h.aa K.2 K.1)
      else(bif gj h.aA then(qs y h.aa (eM ⟨d,va,li,c,0⟩ (22:Int)) af.zero) else(some (⟨d,va,li,c,0⟩,y)))) fun L=>fQ t w f (dY m) (fV m) r (i+1) L.1 L.2):=by
    cases hh:h.bY with
    | true =>
     simp only [cond_true,J,oB];exact fin (P va li c h hc H hh)
    | false =>
     simp only [cond_false];rw [uB,uD];cases eB h.aA.aF.l with
     | true =>
      simp only [cond_true,uF];exact fin (p:=some (af.zero,22,⟨d,va,li,c⟩)) (q:=some (af.zero,⟨d,va,li,c,22⟩)) (.inl ⟨22,_,_,_,_,by decide,rfl,rfl,rfl⟩)
     | false=>simp only [cond_false,oB]; exact skip
   rcases ab with ⟨rfl,hg⟩|⟨rfl,am,ao⟩
   ·obtain⟨ag,m1,m2⟩:=Jv (n:=N+1) C O d li c hg;simp only [aR,if_true,m1,m2,oB];cases ag with
    | true=>simp only [Bool.not_true,Bool.and_false,cond_false]; exact rest
    | false =>
     simp only [Bool.not_false,Bool.and_true,cond_true,J,oB];exact fin (bR va li c h.aA h.aA W X C hc H.1 ⟨rfl,rfl⟩ (hg.mono (by omega)))
   ·simp only [aR,Bool.false_eq_true,if_false,Bool.false_and,cond_false];exact rest
theorem TZ {N M n m:Nat}{d:ak}{b:Int}(q:N<=1099511627776) (bR:oL N M d n m (b+1)) (r:DT N M d n m (b+1)) (s:0<=b/\b<=1000):DS N (M+1) d (n+1) (m+1) b:=by
 intro va li c t v w u hc ht hv;obtain⟨N,rfl⟩:∃x,N=x+1:=by cases N with|zero=>exact hv.elim|succ N=>exact⟨N,rfl⟩
 have h0:Rl (M+1) (af.mk (6:Int) (0:Int) ([]:Bs) true ([]) (Sl.nil:Sl Bs)) (af.mk (6:Int) (0:Int) ([]:Bs) true ([]) (Sl.nil:Sl Bs)) :=
  ⟨rfl,⟨rfl,by show _<=(0:Int); decide,by show (0:Int)<=_; decide⟩,rfl,rfl,fun _=>rfl,by show 0<=_; omega,by show 0<=_; omega,fun h=>(by rcases h with h|h<;>cases h),.nil⟩
 rw [rI,iR,<- hv.1,<- hv.2.2.2.1];by_cases p:v.an=6
 ·simp only [p,decide_true,Bool.not_true,cond_false,Ab.on];rcases TR d va li c t v.aN.l with ⟨f,g⟩|⟨f,g⟩
  ·rw [f,g];rw [JA _ _ _ _ _ _ _ _ _ (by show (22:Int)≠0; decide)];exact .inl ⟨22,zv,_,_,_,by decide,rfl,rfl,rfl⟩
  ·rw [f,g];simp only;rcases TY q bR r s (li:=li) u ht hv t.aL.l 0 c _ _ (by simp) hc h0 rfl (by show 0+_<=_; have:=ht.1; omega) (by show 0+_<=_; have:=ht.1; omega) with ⟨e,c',k',x',i,y,j,k,o⟩|⟨c',x',i,g1,g2,j,k,o⟩
   ·rw [j,k]; exact .inl ⟨e,x',c',i,k',y,rfl,rfl,o⟩
   ·rw [j,k]; exact .inr ⟨c',x',i,g1,g2,rfl,rfl,o⟩
 ·simp only [p,decide_false,Bool.not_false,cond_true,Ab.on,uF];exact .inl ⟨23,_,_,_,_,by decide,rfl,rfl,rfl⟩
theorem DU {N M n m:Nat}{d:ak}{f:Int}(J:N+1<=1099511627776) (j:N<=M) (r:1<=M) (u:∀s,jL N (aT d.aq.l s).1) (K:0<=f/\f<=1000) (hl:f<=24->DR N M d n m f) (y:f<=24->DS N M d n m f):oL N M d (n+1) (m+1) f:=by
 intro va li c t L v w k hc ht he hv;rw [TJ,Jx,DO,<- he.1];cases hi:gm d t.aa with
 | false=>exact .inl ⟨10,zv,_,zv,_,by decide,rfl,rfl,rfl⟩
 | true =>
  have hk:v.an=w.an:=by cases N with|zero=>exact hv.elim|succ N=>exact hv.1
  have E:v.bg=w.bg:=by cases N with|zero=>exact hv.elim|succ N=>exact hv.2.2.1
  have F:(li&&decide (w.an=7))=(decide (v.an=7)&&li):=by rw [hk,Bool.and_comm]
  simp only [Bool.not_true,cond_false,F];cases O:(decide (v.an=7)&&li) with
  | false=>exact Jz j r u hl y k hc ht he hk (fun _=>hv) hi
  | true =>
   simp only [cond_true];obtain⟨i,z,b,G,H,hg⟩:=DQ k (by omega) v.bg;rw [<- E,G,H,oB,oB];have I:i.an=z.an:=by
    rcases hg with ⟨_,h⟩|⟨_,h1,B⟩
    ·cases N with|zero=>exact h.elim|succ N=>exact h.1
    ·rw [h1,B]
   simp only [<- I];by_cases g:i.an=0
   ·simp only [g,decide_true,Bool.not_true,cond_false];exact Jz j r u hl y k hc ht he g (fun h=>(h g).elim) hi
   ·simp only [g,decide_false,Bool.not_false,cond_true];have hr:Rl N i z:=by
     rcases hg with ⟨_,h⟩|⟨_,h1,B⟩
     ·exact h
     ·rw [h1] at g; exact(g rfl).elim
    unfold yz xL;rcases Ju N hr F0 d va li c f (by rw [fK]; omega) hc (by omega) with ⟨e,c',x,k',C,o,p,q⟩|⟨c',x,g1,g2,o,p,q⟩
    ·rw [o,p];exact .inl ⟨e,zv,c',x,k',C,by simp [C],rfl,q⟩
    ·rw [o,p];exact .inr ⟨c',i,x,g1,g2,rfl,rfl,q.mono j⟩
theorem T0 {N:Nat}{d:ak}(f:N+1<=1099511627776) (g:∀s,jL N (aT d.aq.l s).1):∀(k:Nat) (b:Int),1<=b/\b<=900->25<=b+k->∀n m,3*k+1<=n->3*k+1<=m->oL N (N+k+1) d n m b:=by
 intro k;induction k with
 | zero =>
  intro b hl hk n m hn hm va li c t o v w p hc ht he hv;obtain⟨n,rfl⟩:∃x,n=x+1:=⟨n-1,by omega⟩;obtain⟨m,rfl⟩:∃x,m=x+1:=⟨m-1,by omega⟩;exact DU f (by omega) (by omega) g (by omega) (fun h=>by omega) (fun h=>by omega) va li c t o v w p hc ht he hv
 | succ k i =>
  intro b hl hk n m hn hm;obtain⟨n,rfl⟩:∃x,n=x+3:=⟨n-3,by omega⟩;obtain⟨m,rfl⟩:∃x,m=x+3:=⟨m-3,by omega⟩;by_cases j:b<=24
  ·have q:oL N (N+k+1) d n m (b+1):=i (b+1) (by omega) (by omega) n m (by omega) (by omega);have a2:oL N (N+k+1) d (n+1) (m+1) (b+1):=i (b+1) (by omega) (by omega) _ _ (by omega) (by omega);exact DU f (by omega) (by omega) g (by omega) (fun _=>TO a2 (by omega)) (fun _=>TZ (by omega) a2 (TP q) (by omega))
  ·exact DU f (by omega) (by omega) g (by omega) (fun h=>(j h).elim) (fun h=>(j h).elim)
def DV (M:Nat) (p q:Option (af×Int)):Prop:=∃x y e,p=some (x,e)/\q=some (y,e)/\Rl M x y
theorem T1 {N M:Nat}(k:1<=M) (o:M<=1099511627776){d:ak}{va:af}{li:Bool}{p:Option (af×Int×Z1)}{q:Option (af×Z4)}(h:jK M d va li p q) :
  DV M (p.bind fun x=>ou x.1 x.2.1) (q.bind fun x=>bif (!decide (x.2.cH=(0:Int))) then some (zv,x.2.cH) else some (x.1,0)):=by
 rcases h with ⟨e,r,c',i,k',j,b,f,g⟩|⟨c',r,i,g1,g2,b,f,g⟩
 ·rw [b,f];refine⟨zv,zv,e, ?_, ?_,rY.mono k⟩
  ·unfold ou; simp [j]; rfl
  ·simp [g,j]
 ·rw [b,f];obtain⟨x,l,m⟩:=DP M g F0 (by rw [fK]; omega);refine⟨x,i,0, ?_,by simp,m⟩;unfold ou mJ;simp [l]
theorem T2 {N:Nat}{d:ak}(p:N+1<=1099511627000) (g:∀s,jL N (aT d.aq.l s).1){va:af}{li:Bool}{t:az}{v w:af}(i:Rl (N+1) va va) (ht:dJ t.aF) (hv:Rl N v w) :
  DV (N+25) ((yC ⟨d,va,li,0⟩ t v 1).bind fun b=>(ou b.1 b.2.1).bind fun f=>some (f.1,f.2)) ((mF ⟨d,va,li,0,0⟩ t w).bind fun x=>some (x.1,x.2.1)):=by
 have h:=T0 (by omega) g 24 1 (by omega) (by omega) F0 F0 (by rw [fK]; omega) (by rw [fK]; omega) va li 0 t t v w i (by omega) ht ⟨rfl,rfl⟩ hv;have j:=T1 (N:=N) (by omega) (by omega) h;unfold mF yC vk;obtain⟨x,y,e,k,m,o⟩:=j;refine⟨x,y,e, ?_, ?_,o⟩
 ·rw [<- k];cases eZ F0 ⟨d,va,li,0⟩ t v 1 with
  | none=>rfl
  | some a=>simp only [oB]; cases ou a.1 a.2.1<;>rfl
 ·rw [<- m];cases dY F0 ⟨d,va,li,0,0⟩ t w 1 with
  | none=>rfl
  | some a=>simp only [oB]; cases (!decide (a.2.cH=(0:Int)))<;>rfl
theorem JB {N:Nat}{d:ak}(i:N+1<=1099511627000) (j:∀s,jL N (aT d.aq.l s).1){va:af}{t:az}{v w:af}(f:Rl (N+1) va va) (ht:dJ t.aF) (hv:Rl N v w) :
  DV (N+25) (mb d t v va) (iB d t w va):=by
 unfold mb iB;obtain⟨b,m1,m2⟩:=Jv f (by omega) d true 0 hv;have g:=T2 i j (li:=true) f ht hv;simp only [Ab.on,m1,oB,DO];cases hi:gm d t.aa with
 | false =>
  simp only [aR,Bool.false_eq_true,if_false,Bool.false_and,cond_false,Bool.not_false,cond_true];cases b with
  | false=>simp only [cond_false]; exact g
  | true =>
   simp only [cond_true];refine⟨zv,zv,10,rfl, ?_,rY.mono (by omega)⟩;unfold mF vk;rw [show F0=4611686018427387903+1 from rfl,Jx,DO,hi]; rfl
 | true =>
  simp only [aR,if_true,m2,oB,Bool.true_and,Bool.not_true,cond_false];cases b with
  | false=>simp only [cond_false]; exact g
  | true=>simp only [cond_true]; exact⟨zv,zv,8,rfl,rfl,rY.mono (by omega)⟩
theorem T3 {v:af}{b:Bool}(h:nW v b=some true) (hk:v.an=3\/v.an=4):v.bl=0/\v.aD.l=[]/\v.aN.l=[]:=by
 unfold nW at h;rcases hk with hk|hk
 ·simp [hk,Ab.on] at h;exact⟨h.1.1,h.1.2,h.2⟩
 ·simp only [hk,show decide ((4:Int)=0)=false from rfl,show decide ((4:Int)=1)=false from rfl,show decide ((4:Int)=2)=false from rfl,show decide ((4:Int)=3)=false from rfl,decide_true,cond_false,cond_true,Ab.on] at h;cases c:(((decide (v.bl=(0:Int)))&&(decide (((v.aD.l.length:Nat):Int)=(0:Int))))&&(decide (((v.aN.l.length:Nat):Int)=(0:Int)))) with
  | true=>simp at c; exact⟨c.1.1,c.1.2,c.2⟩
  | false=>rw [c] at h; simp at h
theorem T4 (n:Nat):∀(v:af) (b:Bool),fW n v b=some true->v.wf->v.sz<=1048576->Rl n v v:=by
 induction n with
 | zero=>intro v b h; cases h
 | succ n m =>
  intro v b h hw p;rw [fW] at h;cases e:nW v b with
  | none=>rw [e] at h; cases h
  | some x =>
   cases x with
   | false=>rw [e] at h; cases h
   | true =>
    rw [e] at h;simp only [oB,Bool.not_true,cond_false,Ab.on] at h;have k:=(af.qQ v).1 hw;have q:=v.bq;have hl:∀l:List af,iS b (fW n) l=some (Sum.inl ())->∀x∈l,fW n x b=some true:=by
     intro l;induction l with
     | nil=>intro _ x hx; cases hx
     | cons a r g =>
      intro h;rw [iS] at h;simp only [Ab.on] at h;cases e:fW n a b with
      | none=>simp [e] at h
      | some y =>
       cases y with
       | false=>simp [e] at h
       | true =>
        simp only [e,oB,Bool.not_true,cond_false] at h;intro x hx;rcases List.mem_cons.1 hx with rfl|hx
        ·exact e
        ·exact g h x hx
    have o:∀x∈v.aD.l,fW n x b=some true:=by
     cases i:nX b v.aN.l with
     | inr y=>rw [i] at h; simp only [Option.some.injEq] at h; subst h; exact absurd i (by
       intro i;have:∀l:List Bs,nX b l≠Sum.inr true:=by
        intro l;induction l with
        | nil=>intro h; cases h
        | cons a r g =>
         rw [nX]; simp only [Ab.on];cases (b&&!(bif b then d_ (bif b then a else []) else false)) with
         | true=>intro h; cases h
         | false=>exact g
       exact this _ i)
     | inl _ =>
      rw [i] at h;simp only at h;cases j:iS b (fW n) v.aD.l with
      | none=>rw [j] at h; cases h
      | some z =>
       cases z with
       | inl _=>exact hl _ j
       | inr y =>
        rw [j] at h;simp only [oB,Option.some.injEq] at h;subst h;have:∀l:List af,iS b (fW n) l≠some (Sum.inr true):=by
         intro l;induction l with
         | nil=>intro h; cases h
         | cons a r g =>
          rw [iS]; simp only [Ab.on];cases fW n a b with
          | none=>intro h; cases h
          | some y =>
           cases y with
           | false=>intro h; cases h
           | true=>exact g
        exact(this _ j).elim
    have s:=Sl.ej (f:=af.sz) v.aD (fun x=>by have:=x.bq; omega);have t:=Sl.ej (f:=Bs.sz) v.aN (fun x=>Bs.jW x);have self:∀l:List af,(∀x∈l,Rl n x x)->aY (Rl n) l l:=by
     intro l;induction l with
     | nil=>intro _; exact .nil
     | cons a r g=>intro h; exact .cons (h a (by simp)) (g fun x hx=>h x (by simp [hx]))
    refine⟨rfl,⟨rfl,k.2.1⟩,rfl,rfl,k.2.2.2.2.1.1,by unfold bB; omega,by unfold bB; omega,T3 e,self _ fun x hx=>m x b (o x hx) ?_ ?_⟩
    ·exact k.2.2.2.1.2.2 x hx
    ·have:=Sl.cW (f:=af.sz) hx; omega
theorem T5 {v:af}(h:fE v=some true):fW F0 v true=some true:=by
  unfold fE at h;obtain⟨a,_,h⟩:=bx h;rcases fh h with ⟨_,b,_,h⟩|⟨_,h⟩
  · rcases fh h with ⟨_,c,e,h⟩|⟨_,h⟩
    · simp at h; rw [h.2] at e; exact e
    · simp at h
  · rcases fh h with ⟨_,c,e,h⟩|⟨_,h⟩
    · simp at h; rw [h.2] at e; exact e
    · simp at h
theorem T6 (l:List Z8) (z:Unit ⊕ Bool) (h:kj l=some z):(z=Sum.inl ()/\∀x∈l,x.bY=true->fE x.cB=some true)\/z=Sum.inr false:=by
  induction l generalizing z with
  | nil=>rw [kj] at h; exact .inl ⟨(oJ h).symm,fun a i=>by cases i⟩
  | cons a r j =>
    rw [kj] at h;simp only [Ab.on] at h;have step:∀(b:Bool),(a.bY=true->fE a.cB=some b)->∀f:Bool,(bif ((a.bY&&((!b)||(!f)))||((!a.bY)&&(!(bif (!(a.bY&&((!b)||(!f)))&&(!a.bY)) then vl a.cB else false)))) then(some (Sum.inr false)) else(kj r))=some z ->
        (z=Sum.inl ()/\∀x∈a::r,x.bY=true->fE x.cB=some true)\/z=Sum.inr false:=by
      intro b e f h;rcases fu h with ⟨_,h⟩|⟨hc,h⟩
      · exact .inr (oJ h).symm
      · rcases j z h with ⟨h1,k⟩|h1
        · refine .inl ⟨h1,fun x hx hh=>?_⟩
          rcases List.mem_cons.1 hx with rfl|hx
          · have:=e hh
            rw [hh] at hc;cases b with
            | true=>exact this
            | false=>simp at hc
          · exact k x hx hh
        · exact .inr h1
    rcases fh h with ⟨_,m,_,h⟩|⟨_,h⟩<;>rcases fh h with ⟨_,o,_,h⟩|⟨_,h⟩<;>rcases fu h with ⟨_,h⟩|⟨_,h⟩;all_goals first
      | exact .inr (oJ h).symm
      | (rcases fh h with ⟨_,b,g,h⟩|⟨g,h⟩
         · rcases fh h with ⟨_,f,_,h⟩|⟨_,h⟩
           · exact step b (fun _=>g) f h
           · exact step b (fun _=>g) false h
         · rcases fh h with ⟨_,f,_,h⟩|⟨_,h⟩
           · exact step false (fun hh=>by rw [hh] at g; cases g) f h
           · exact step false (fun hh=>by rw [hh] at g; cases g) false h)
theorem JC {s:Sl Z8}(h:mI s=some true):∀x∈s.l,x.bY=true->fE x.cB=some true:=by
  unfold mI at h;rcases fu h with ⟨_,h⟩|⟨_,h⟩
  · cases h
  · obtain⟨z,g,h⟩:=bx h
    rcases T6 _ _ g with ⟨_,h1⟩|rfl
    · exact h1
    · cases h
theorem DW {t:aj}(h:iC t=some true):∀x∈t.aL.l,x.bY=true->fE x.cB=some true:=by
  have nil:t.aL.l=[]->∀x∈t.aL.l,x.bY=true->fE x.cB=some true:=fun e x hx=>by rw [e] at hx; cases hx
  have fin:∀c:Bool,(some (c&&decide (((t.aL.l.length:Nat):Int)=(0:Int))))=some true->t.aL.l=[]:=fun c h=>by
    simp at h; exact h.2
  unfold iC at h;simp only [Ab.on] at h;rcases fh h with ⟨_,b,_,h⟩|⟨_,h⟩<;>rcases fu h with ⟨_,h⟩|⟨_,h⟩;all_goals first
    | (cases h; done)
    | (cases e:lJ t.aX.l with
       | inr y=>rw [e] at h; have:=Dp _ _ e; subst this; cases h
       | inl _ =>
         rw [e] at h;simp only at h;rcases fu h with ⟨_,h⟩|⟨_,h⟩
         · obtain⟨f,_,h⟩:=bx h
           exact nil (fin _ h)
         · rcases fu h with ⟨_,h⟩|⟨_,h⟩
           · rcases fh h with ⟨_,x,_,h⟩|⟨_,h⟩<;>exact nil (fin _ h)
           · rcases fu h with ⟨_,h⟩|⟨_,h⟩
             · rcases fh h with ⟨_,x,_,h⟩|⟨_,h⟩<;>exact nil (fin _ h)
             · rcases fu h with ⟨_,h⟩|⟨_,h⟩
               · rcases fh h with ⟨_,x,_,h⟩|⟨_,h⟩<;>exact nil (fin _ h)
               · rcases fu h with ⟨_,h⟩|⟨_,h⟩
                 · rcases fh h with ⟨_,x,ex,h⟩|⟨_,h⟩
                   · simp at h; rw [h.2] at ex; exact JC ex
                   · simp at h
                 · cases h)
theorem T7 {α:Type}{R S:α->α->Prop}{l:List α}(h:aY R l l) (hi:∀x∈l,R x x->S x x):aY S l l :=
 aY.jN rfl fun i x y h1 b=>by
  rw [h1] at b; simp only [Option.some.injEq] at b; subst b;obtain⟨y,f,g⟩:=h.get h1;rw [h1] at f; simp only [Option.some.injEq] at f; subst f;exact hi x (List.mem_of_getElem? h1) g
theorem Rl.small:∀(m n:Nat){v:af},Rl n v v->v.sz<=m->Rl m v v
 | 0,_,v,_,hm=>by have:=v.pos; omega
 | _+1,0,_,h,_=>h.elim
 | m+1,n+1,v,⟨a,b,c,d,e,f,g,i,k⟩,hm=>⟨a,b,c,d,e,f,g,i,T7 k fun x hx h=>Rl.small m n h (by have:=af.mc hx; omega)⟩
def nB:Nat:=1048576
theorem JD {v:af}(h:fE v=some true) (hw:v.wf) (b:v.sz<=1048576):Rl nB v v:=Rl.small _ _ (T4 F0 v true (T5 h) hw b) b
theorem JE {t:az}(hw:t.wf) (b:t.sz<=1048576):dJ t.aF:=⟨hw.2.1.1,by have:=az.rQ t; omega⟩
theorem DX {x:Z8}(hl:x.bY=true->fE x.cB=some true) (hw:x.wf) (b:x.sz<=1048576):rZ nB x:=by
 have:=x.bq;exact⟨JE hw.2.1 (by omega),fun h=>JD (hl h) hw.2.2.2.1 (by omega)⟩
theorem T8 {t:aj}(hl:∀x∈t.aL.l,x.bY=true->fE x.cB=some true) (hw:t.wf) (b:t.sz<=1048576):jL nB t:=by
 have h1:=t.bq;have g:=Sl.ej (f:=Z8.sz) t.aL (fun x=>x.pos);exact⟨by omega,fun x hx=>DX (hl x hx) (hw.2.2.2.2.2.2.1.2.2 x hx) (by have:=Sl.cW (f:=Z8.sz) hx; omega)⟩
theorem JF {d:ak}(h:gW d=some true) (hw:d.wf) (b:d.sz<=1048576):∀s,jL nB (aT d.aq.l s).1:=by
 intro s;rcases wo d.aq.l s with e|hm
 ·rw [e]; exact⟨by show 0<=_; omega,fun x hx=>by cases hx⟩
 ·exact T8 (DW (yP h _ hm)) (hw.1.2.2 _ hm) (by have:=ak.Dn hm; omega)
theorem T9 (l:List Z7) (z:Unit ⊕ Bool) (h:ko l=some z):(z=Sum.inl ()/\∀f∈l,∀x∈f.aH.l,x.bY=true->fE x.cB=some true)\/z=Sum.inr false:=by
  induction l generalizing z with
  | nil=>rw [ko] at h; exact .inl ⟨(oJ h).symm,fun a i=>by cases i⟩
  | cons a r j =>
    rw [ko] at h;simp only [Ab.on] at h;cases hn:d_ a.aa with
    | false =>
      rw [hn] at h;simp [aR] at h;exact .inr h.symm
    | true =>
      rw [hn] at h;simp only [Bool.not_true,Bool.not_false,cond_true,Bool.false_or] at h;rcases fh h with ⟨_,y,k,h⟩|⟨g,_⟩
      · cases y with
        | false=>simp [aR] at h; exact .inr h.symm
        | true =>
          simp only [Bool.not_true,Bool.not_false,cond_true,Bool.false_or] at h;have m:=JC k;have fin:∀b:Bool,(bif b then some (Sum.inr false) else ko r)=some z->(z=Sum.inl ()/\∀f∈a::r,∀x∈f.aH.l,x.bY=true->fE x.cB=some true)\/z=Sum.inr false:=by
            intro b h;cases b with
            | true=>exact .inr (oJ h).symm
            | false =>
              rcases j z h with ⟨h1,o⟩|h1
              · exact .inl ⟨h1,fun f g=>by rcases List.mem_cons.1 g with rfl|g; exact m; exact o f g⟩
              · exact .inr h1
          rcases fh h with ⟨_,w,_,h⟩|⟨_,h⟩<;>rcases fh h with ⟨_,u,_,h⟩|⟨_,h⟩<;>exact fin _ h
      · cases g
theorem JG {s:Sl Z7}(h:lI s=some true):∀f∈s.l,∀x∈f.aH.l,x.bY=true->fE x.cB=some true:=by
  unfold lI at h;rcases fu h with ⟨_,h⟩|⟨_,h⟩
  · cases h
  · obtain⟨z,g,h⟩:=bx h
    rcases T9 _ _ g with ⟨_,h1⟩|rfl
    · exact h1
    · cases h
theorem JH {t:aj}(h:iC t=some true):∀f∈t.aB.l,∀x∈f.aH.l,x.bY=true->fE x.cB=some true:=by
  have nil:t.aB.l.length=0->∀f∈t.aB.l,∀x∈f.aH.l,x.bY=true->fE x.cB=some true:=fun e f b=>by
    rw [List.length_eq_zero_iff] at e; rw [e] at b; cases b
  unfold iC at h;simp only [Ab.on] at h;rcases fh h with ⟨_,i,_,h⟩|⟨_,h⟩<;>rcases fu h with ⟨_,h⟩|⟨_,h⟩;all_goals first
    | (cases h; done)
    | (cases e:lJ t.aX.l with
       | inr y=>rw [e] at h; have:=Dp _ _ e; subst this; cases h
       | inl _ =>
         rw [e] at h;simp only at h;rcases fu h with ⟨_,h⟩|⟨_,h⟩
         · obtain⟨j,g,h⟩:=bx h
           simp at h; rw [h.1.1] at g; exact JG g
         · rcases fu h with ⟨_,h⟩|⟨_,h⟩
           · rcases fh h with ⟨_,x,g,h⟩|⟨_,h⟩
             · simp at h; rw [h.1.1.2] at g; exact JG g
             · simp at h
           · rcases fu h with ⟨_,h⟩|⟨_,h⟩
             · rcases fh h with ⟨_,x,g,h⟩|⟨_,h⟩<;>simp at h
               exact nil (by rw [h.1.1.2]; rfl)
             · rcases fu h with ⟨_,h⟩|⟨_,h⟩
               · rcases fh h with ⟨_,x,g,h⟩|⟨_,h⟩<;>simp at h
                 exact nil (by rw [h.1.1.2]; rfl)
               · rcases fu h with ⟨_,h⟩|⟨_,h⟩
                 · rcases fh h with ⟨_,x,g,h⟩|⟨_,h⟩<;>simp at h
                   exact nil (by rw [h.1.1.1.2]; rfl)
                 · cases h)
def gD (d:ak) (x:Z8) (p:Bs):List Z6:=bif x.bY then(match mb d x.aA x.cB zv with|some y=>bif decide (y.2=0) then [] else [Z6.mk 23 p]|none=>[]) else []
theorem qt (d:ak) (x:Z8) (p:Bs):(gD d x p).length<=1:=by
 unfold gD;cases x.bY with
 | false=>simp
 | true =>
  cases mb d x.aA x.cB zv with
  | none=>simp
  | some y =>
   simp only [cond_true];cases decide (y.2=0) with
   | true=>simp
   | false=>simp
def Good (d:ak) (x:Z8):Prop:=x.sz<=1048576/\(x.bY=true->∃v w e,mb d x.aA x.cB zv=some (v,e)/\iB d x.aA x.cB zv=some (w,e))
theorem za {α:Type}(g:α->List Z6) (h:∀x,(g x).length<=1):∀l:List α,(l.flatMap g).length<=l.length
 | []=>by simp
 | a::r=>by have:=za g h r; have:=h a; simp only [List.flatMap_cons,List.length_append,List.length_cons]; omega
theorem JI {d:ak}{x:Z8}(hx:Good d x) (p:Bs) (s:Sl Z6) (g:s.l.length<=549755813888):∃t,rJ x p d s=some t/\t.l=s.l++gD d x p:=by
 unfold rJ gD;cases hh:x.bY with
 | false=>exact⟨s,rfl,by simp⟩
 | true =>
  obtain⟨v,w,e,b,_⟩:=hx.2 hh;have f:mb d x.aA x.cB (af.mk (0:Int) (0:Int) ([]:Bs) true ([]) (Sl.nil:Sl Bs))=some (v,e):=b;rw [Bool.not_true,cond_false,f,b,oB];simp only [cond_true];cases decide (e=0) with
  | true=>exact⟨s,rfl,by simp⟩
  | false=>simp only [Bool.not_false,cond_true,cond_false]; rw [gN (by decide) (by show s.l.length+1<=_; omega)]; exact⟨_,rfl,rfl⟩
theorem DY (x:Z8) (h:x.sz<=1048576):x.aa.length<=1048576:=by
 have h1:=x.bq; have b:Bs.sz x.aa=x.aa.length+1:=rfl; omega
def DZ (p n:Bs):Bs:=p++[40]++n++[41]
theorem T_ (d:ak) (b:aj) (f:Z7) (h1:b.aa.length<=1048576) (v:f.aa.length<=1048576):∀(l:List Z8) (s:Sl Z6),(∀x∈l,Good d x)->s.l.length+l.length<=549755813888 ->
  ∃t,p8 d b f l s=some t/\t.l=s.l++l.flatMap fun x=>gD d x (DZ (b.aa++[46]++f.aa) x.aa):=by
 intro l;induction l with
 | nil=>intro s _ _; exact⟨s,rfl,by simp⟩
 | cons a r j =>
  intro s hx k;simp only [List.length_cons] at k;have g:=hx a (by simp);have hn:=DY a g.1;rw [p8];simp only [Ab.on];rw [di (by simp only [List.length_append,List.length_cons,List.length_nil]; omega),oB,di (by simp only [List.length_append,List.length_cons,List.length_nil]; omega),oB,di (by simp only [List.length_append,List.length_cons,List.length_nil]; omega),oB,di (by simp only [List.length_append,List.length_cons,List.length_nil]; omega),oB,di (by simp only [List.length_append,List.length_cons,List.length_nil]; omega),oB]
  obtain⟨t,m,i⟩:=JI g (b.aa++[46]++f.aa++[40]++a.aa++[41]) s (by omega);rw [m,oB];obtain⟨u,o,p⟩:=j t (fun x q=>hx x (by simp [q])) (by rw [i,List.length_append]; have:=qt d a (b.aa++[46]++f.aa++[40]++a.aa++[41]); omega);exact⟨u,o,by rw [p,i,List.flatMap_cons,List.append_assoc]; rfl⟩
theorem T' (d:ak) (b:aj) (h1:b.aa.length<=1048576):∀(l:List Z8) (s:Sl Z6),(∀x∈l,Good d x)->s.l.length+l.length<=549755813888 ->
  ∃t,oA d b l s=some t/\t.l=s.l++l.flatMap fun x=>gD d x (b.aa++[46]++x.aa):=by
 intro l;induction l with
 | nil=>intro s _ _; exact⟨s,rfl,by simp⟩
 | cons a r i =>
  intro s hx j;simp only [List.length_cons] at j;have f:=hx a (by simp);have hn:=DY a f.1;rw [oA];simp only [Ab.on];rw [di (by simp only [List.length_append,List.length_cons,List.length_nil]; omega),oB,di (by simp only [List.length_append,List.length_cons,List.length_nil]; omega),oB];obtain⟨t,k,g⟩:=JI f (b.aa++[46]++a.aa) s (by omega)
  rw [k,oB];obtain⟨u,m,o⟩:=i t (fun x p=>hx x (by simp [p])) (by rw [g,List.length_append]; have:=qt d a (b.aa++[46]++a.aa); omega);exact⟨u,m,by rw [o,g,List.flatMap_cons,List.append_assoc]⟩
theorem Ua (d:ak) (p o n:Bs) (h1:p.length<=4194304) (G:o.length<=4) (H:n.length<=4):∀(l:List Z8) (s:Sl Z6),(∀x∈l,Good d x)->s.l.length+l.length<=549755813888 ->
  ∃t,nT d p o n l s=some t/\t.l=s.l++l.flatMap fun x=>gD d x (p++o++x.aa++n):=by
 intro l;induction l with
 | nil=>intro s _ _; exact⟨s,rfl,by simp⟩
 | cons a r i =>
  intro s hx j;simp only [List.length_cons] at j;have g:=hx a (by simp);have hn:=DY a g.1;rw [nT];simp only [Ab.on];have step:∃t,(bif (!a.bY) then(some s) else((iB d a.aA a.cB (af.mk (0:Int) (0:Int) ([]:Bs) true ([]) (Sl.nil:Sl Bs))).bind fun k=>bif (!decide (k.2=(0:Int))) then((bM p o).bind fun m=>(bM m a.aa).bind fun q=>(bM q n).bind fun y=>(aW 24 s (⟨false,[(Z6.mk (23:Int) y)]⟩:Sl Z6)).bind fun z=>some z) else(some s)))=some t/\t.l=s.l++gD d a (p++o++a.aa++n):=by
   unfold gD;cases hh:a.bY with
   | false=>exact⟨s,rfl,by simp⟩
   | true =>
    obtain⟨v,w,e,f,b⟩:=g.2 hh;have B:iB d a.aA a.cB (af.mk (0:Int) (0:Int) ([]:Bs) true ([]) (Sl.nil:Sl Bs))=some (w,e):=b;rw [Bool.not_true,cond_false,B,f,oB];simp only [cond_true];cases decide (e=0) with
    | true=>exact⟨s,rfl,by simp⟩
    | false =>
     simp only [Bool.not_false,cond_true,cond_false];rw [di (by omega),oB,di (by simp only [List.length_append]; omega),oB,di (by simp only [List.length_append]; omega),oB,gN (by decide) (by show s.l.length+1<=_; omega)];exact⟨_,rfl,rfl⟩
  obtain⟨t,f,b⟩:=step;rw [f,oB];obtain⟨u,C,E⟩:=i t (fun x F=>hx x (by simp [F])) (by rw [b,List.length_append]; have:=qt d a (p++o++a.aa++n); omega);exact⟨u,C,by rw [E,b,List.flatMap_cons,List.append_assoc]⟩
theorem JJ (d:ak) (s:Sl Z8) (p o n:Bs) (h1:p.length<=4194304) (b:o.length<=4) (f:n.length<=4) (hx:∀x∈s.l,Good d x) (j:s.l.length<=1048576):∃t,px d s p o n=some t/\t.l=s.l.flatMap fun x=>gD d x (p++o++x.aa++n):=by
 unfold px;obtain⟨t,g,i⟩:=Ua d p o n h1 b f s.l (Sl.nil:Sl Z6) hx (by simp [Sl.nil]; omega);rw [g,oB];exact⟨t,rfl,by rw [i]; simp [Sl.nil]⟩
def fF (d:ak) (t:aj) (f:Z7):List Z6:=f.aH.l.flatMap fun x=>gD d x (DZ (t.aa++[46]++f.aa) x.aa)
def fI (d:ak) (t:aj):List Z6:=t.aL.l.flatMap fun x=>gD d x (t.aa++[46]++x.aa)
def fD (d:ak) (t:aj):List Z6:=t.aB.l.flatMap (fF d t)++fI d t
def r_ (d:ak) (f:Z7):Prop:=f.sz<=1048576/\∀x∈f.aH.l,Good d x
def uG (d:ak) (t:aj):Prop:=t.sz<=1048576/\(∀f∈t.aB.l,r_ d f)/\∀x∈t.aL.l,Good d x
theorem D0 {d:ak}{f:Z7}(h:r_ d f):f.aa.length<=1048576/\f.aH.l.length<=f.sz:=by
 have h1:=f.bq; have b:Bs.sz f.aa=f.aa.length+1:=rfl;have g:=Sl.ej (f:=Z8.sz) f.aH (fun x=>x.pos);have i:=h.1;exact⟨by omega,by omega⟩
theorem JK {d:ak}{t:aj}(h:uG d t):t.aa.length<=1048576/\t.aL.l.length+(t.aB.l.map Z7.sz).sum<=t.sz:=by
 have h1:=t.bq; have b:Bs.sz t.aa=t.aa.length+1:=rfl;have g:=Sl.ej (f:=Z8.sz) t.aL (fun x=>x.pos);have i:=h.1;have j:Sl.sz Z7.sz t.aB=1+(t.aB.l.map Z7.sz).sum:=rfl;exact⟨by omega,by omega⟩
theorem zb {d:ak}{t:aj}{f:Z7}(h:r_ d f):(fF d t f).length<=f.sz:=by
 have:=za (fun x:Z8=>gD d x (DZ (t.aa++[46]++f.aa) x.aa)) (fun x=>qt _ _ _) f.aH.l;have:=(D0 h).2;unfold fF; omega
theorem Ub (d:ak) (t:aj) (h1:t.aa.length<=1048576):∀(l:List Z7) (s:Sl Z6),(∀f∈l,r_ d f)->s.l.length+(l.map Z7.sz).sum<=549755813888 ->
  ∃u,oz d t l s=some u/\u.l=s.l++l.flatMap (fF d t):=by
 intro l;induction l with
 | nil=>intro s _ _; exact⟨s,rfl,by simp⟩
 | cons a r i =>
  intro s hx j;simp only [List.map_cons,List.sum_cons] at j;have b:=hx a (by simp);obtain⟨f1,f2⟩:=D0 b;rw [oz];simp only [Ab.on];obtain⟨u,k,g⟩:=T_ d t a h1 f1 a.aH.l s b.2 (by omega);rw [k,oB];have hl:=zb (t:=t) b;obtain⟨w,m,o⟩:=i u (fun x p=>hx x (by simp [p])) (by rw [g,List.length_append]; unfold fF at hl; omega);exact⟨w,m,by rw [o,g,List.flatMap_cons,List.append_assoc]; rfl⟩
theorem Uc (d:ak) (t:aj) (h1:t.aa.length<=1048576):∀(l:List Z7) (s:Sl Z6),(∀f∈l,r_ d f)->s.l.length+(l.map Z7.sz).sum<=549755813888 ->
  ∃u,py d t l s=some u/\u.l=s.l++l.flatMap (fF d t):=by
 intro l;induction l with
 | nil=>intro s _ _; exact⟨s,rfl,by simp⟩
 | cons a r i =>
  intro s hx j;simp only [List.map_cons,List.sum_cons] at j;have b:=hx a (by simp);obtain⟨f1,f2⟩:=D0 b;rw [py];simp only [Ab.on];rw [di (by simp only [List.length_cons,List.length_nil]; omega),oB,di (by simp only [List.length_append,List.length_cons,List.length_nil]; omega),oB];obtain⟨u,k,m⟩:=JJ d a.aH (t.aa++[46]++a.aa) [40] [41] (by simp only [List.length_append,List.length_cons,List.length_nil]; omega) (by simp) (by simp) b.2 (by have:=b.1; omega)
  have hl:=zb (t:=t) b;have g:u.l=fF d t a:=m;rw [k,oB,gN (by decide) (by rw [g]; omega),oB];obtain⟨w,o,p⟩:=i ⟨s.nl&&u.l.isEmpty,s.l++u.l⟩ (fun x q=>hx x (by simp [q])) (by show (s.l++u.l).length+_<=_; rw [g,List.length_append]; omega);exact⟨w,o,by rw [p,g,List.flatMap_cons,List.append_assoc]⟩
theorem JL (d:ak):∀(l:List aj) (s:Sl Z6),(∀t∈l,uG d t)->s.l.length+(l.map aj.sz).sum<=549755813888->∃u,mZ d l s=some u/\u.l=s.l++l.flatMap (fD d):=by
 intro l;induction l with
 | nil=>intro s _ _; exact⟨s,rfl,by simp⟩
 | cons a r k =>
  intro s hx m;simp only [List.map_cons,List.sum_cons] at m;have g:=hx a (by simp);obtain⟨f1,f2⟩:=JK g;rw [mZ];simp only [Ab.on];obtain⟨u,o,i⟩:=Ub d a f1 a.aB.l s g.2.1 (by omega);have F:(a.aB.l.flatMap (fF d a)).length<=(a.aB.l.map Z7.sz).sum:=by
   have:∀l:List Z7,(∀f∈l,r_ d f)->(l.flatMap (fF d a)).length<=(l.map Z7.sz).sum:=by
    intro l;induction l with
    | nil=>intro _; simp
    | cons b t p=>intro h; have:=p fun f q=>h f (by simp [q]); have:=zb (t:=a) (h b (by simp)); simp only [List.flatMap_cons,List.length_append,List.map_cons,List.sum_cons]; omega
   exact this _ g.2.1
  rw [o,oB];obtain⟨v,y,j⟩:=T' d a f1 a.aL.l u g.2.2 (by rw [i,List.length_append]; omega);rw [y,oB];have z:(fI d a).length<=a.aL.l.length:=za _ (fun x=>qt _ _ _) _;obtain⟨w,B,C⟩:=k v (fun x E=>hx x (by simp [E])) (by rw [j,i,List.length_append,List.length_append]; unfold fI at z; omega);exact⟨w,B,by rw [C,j,i,List.flatMap_cons]; unfold fD fI; simp only [List.append_assoc]⟩
theorem JM (d:ak):∀(l:List aj) (s:Sl Z6),(∀t∈l,uG d t)->s.l.length+(l.map aj.sz).sum<=549755813888->∃u,mG d l s=some u/\u.l=s.l++l.flatMap (fD d):=by
 intro l;induction l with
 | nil=>intro s _ _; exact⟨s,rfl,by simp⟩
 | cons a r k =>
  intro s hx m;simp only [List.map_cons,List.sum_cons] at m;have g:=hx a (by simp);have F:=g.1;obtain⟨f1,f2⟩:=JK g;rw [mG];simp only [Ab.on];obtain⟨u,o,i⟩:=Uc d a f1 a.aB.l s g.2.1 (by omega);have G:(a.aB.l.flatMap (fF d a)).length<=(a.aB.l.map Z7.sz).sum:=by
   have:∀l:List Z7,(∀f∈l,r_ d f)->(l.flatMap (fF d a)).length<=(l.map Z7.sz).sum:=by
    intro l;induction l with
    | nil=>intro _; simp
    | cons b t p=>intro h; have:=p fun f q=>h f (by simp [q]); have:=zb (t:=a) (h b (by simp)); simp only [List.flatMap_cons,List.length_append,List.map_cons,List.sum_cons]; omega
   exact this _ g.2.1
  rw [o,oB];obtain⟨v,y,z⟩:=JJ d a.aL a.aa [46] [] (by omega) (by simp) (by simp) g.2.2 (by omega);have j:v.l=fI d a:=by rw [z]; unfold fI; simp only [List.append_nil]
  have H:(fI d a).length<=a.aL.l.length:=za _ (fun x=>qt _ _ _) _;rw [y,oB,gN (by decide) (by rw [j,i,List.length_append]; omega),oB];obtain⟨w,B,C⟩:=k ⟨u.nl&&v.l.isEmpty,u.l++v.l⟩ (fun x E=>hx x (by simp [E])) (by show (u.l++v.l).length+_<=_; rw [j,i,List.length_append,List.length_append]; omega);exact⟨w,B,by rw [C,j,i,List.flatMap_cons]; unfold fD; simp only [List.append_assoc]⟩
theorem JN:nB+1<=1099511627000:=by unfold nB; omega
theorem D1 {d:ak}(h:gW d=some true) (hw:d.wf) (j:d.sz<=1048576):∀t∈d.aq.l,uG d t:=by
 have k:=JF h hw j;have one:∀x:Z8,x.wf->x.sz<=1048576->(x.bY=true->fE x.cB=some true)->Good d x:=by
  intro x g m hl;refine⟨m,fun hh=>?_⟩;have o:=x.bq;obtain⟨v,w,e,p,q,_⟩:=JB (N:=nB) JN k (va:=zv) (rY.mono (by unfold nB; omega)) (JE g.2.1 (by omega)) (JD (hl hh) g.2.2.2.1 (by omega));exact⟨v,w,e,p,q⟩
 intro t ht;have hr:=yP h t ht;have s:=ak.Dn ht;have i:=hw.1.2.2 t ht;have o:=t.bq;refine⟨by omega,fun f b=>?_,fun x hx=>one x (i.2.2.2.2.2.2.1.2.2 x hx) (by have:=Sl.cW (f:=Z8.sz) hx; omega) (DW hr x hx)⟩;have u:=Sl.cW (f:=Z7.sz) b;have y:=f.bq;have r:f.wf:=i.2.2.2.2.1.2.2 f b;exact⟨by omega,fun x hx=>one x (r.2.1.2.2 x hx) (by have:=Sl.cW (f:=Z8.sz) hx; omega) (JH hr f b x hx)⟩
theorem Ud (d:ak) (t:aj) (f:Z7):(fF d t f).length<=f.sz:=by
 have h1:=DJ f;have b:(fF d t f).length<=(f.aH.l.map fun _=>1).sum:=oK (fun _=>qt _ _ _) _;rw [DI] at b; omega
theorem Ue (d:ak) (t:aj):(fD d t).length<=t.sz:=by
 have h1:=t.bq;have g:=Sl.gz (f:=Z8.sz) t.aL Z8.pos;have b:(fI d t).length<=(t.aL.l.map fun _=>1).sum:=oK (fun _=>qt _ _ _) _;rw [DI] at b;have i:(t.aB.l.flatMap (fF d t)).length<=(t.aB.l.map Z7.sz).sum:=oK (Ud d t) _;have j:Sl.sz Z7.sz t.aB=1+(t.aB.l.map Z7.sz).sum:=rfl;unfold fD;rw [List.length_append]; omega
theorem Uf {d:ak}(h:gW d=some true) (hw:d.wf) (g:d.sz<=1048576):∃a b,p9 d=some a/\kg d=some b/\a.l=b.l/\a.l.length<=1048576:=by
 have hg:=D1 h hw g;have m:=d.bq;have h1:Sl.sz aj.sz d.aq=1+(d.aq.l.map aj.sz).sum:=rfl;obtain⟨a,i,f⟩:=JL d d.aq.l (Sl.nil:Sl Z6) hg (by simp only [Sl.nil,List.length_nil]; omega);obtain⟨b,j,k⟩:=JM d d.aq.l (Sl.nil:Sl Z6) hg (by simp only [Sl.nil,List.length_nil]; omega);refine⟨a,b, ?_, ?_,by rw [f,k], ?_⟩
 ·unfold p9; rw [i]; rfl
 ·unfold kg; rw [j]; rfl
 ·rw [f];have:=oK (Ue d) d.aq.l;show (List.length ([]++d.aq.l.flatMap (fD d)))<=_;rw [List.nil_append]; omega
theorem D2 {d:ak}(j:d.sz<=1048576) (hw:d.wf):∀t∈d.aq.l,jc t:=by
 have k:=Sn j hw;have h0:=d.bq;have b:∀s:Bs,Bs.sz s=s.length+1:=fun _=>rfl;intro t ht;have h1:=Sl.cW (f:=aj.sz) ht;have o:=t.bq;rw [b] at o;refine⟨by omega,fun f i=>?_,fun m hm=>?_⟩
 ·have p:=Sl.cW (f:=Z7.sz) i;have g:=f.bq;rw [b] at g;refine⟨by omega,fun a q=>?_,((k t ht).2.2.1 f i).1⟩;have u:=Sl.cW (f:=Z8.sz) q;have r:=a.bq;rw [b] at r;omega
 ·have p:=Sl.cW (f:=Z9.sz) hm;have g:=m.bq;rw [b] at g;omega
theorem D3 {s r:Sl Z6}(h:s.l.length+r.l.length<=5000000000000):aW 24 s r=some ⟨s.nl&&r.l.isEmpty,s.l++r.l⟩:=by
 unfold aW; rw [if_pos]; unfold cS; omega
theorem JO:∀(l:List Z7) (s:Int),0<=s->s+((l.map Z7.sz).sum:Nat)<=1073741824->∃r,pz l s=some r/\s<=r/\r<=s+((l.map Z7.sz).sum:Nat)/\∀f∈l,s+(f.aH.l.length:Nat)<=r
 | [],s,_,_=>⟨s,rfl,by omega,by simp,fun _ h=>by cases h⟩
 | f::l,s,h0,b=>by
  simp only [List.map_cons,List.sum_cons] at b ⊢;have h1:=f.bq;have i:=Sl.ej (f:=Z8.sz) f.aH (fun x=>Z8.pos x);have j:=Sl.ej (f:=aC.sz) f.bp (fun x=>aC.pos x);rw [pz];simp only [Ab.on];rw [fP (by omega),oB,fP (by omega),oB];obtain⟨r,e,k,a2,a3⟩:=JO l (s+(((f.aH.l.length:Nat):Int)+((f.bp.l.length:Nat):Int))) (by omega) (by omega)
  refine⟨r,e,by omega,by omega,fun g hg=>?_⟩;rcases List.mem_cons.1 hg with rfl|hg
  ·omega
  ·have:=a3 g hg; omega
theorem JP:∀(l:List aj) (s:Int),0<=s->s+2*((l.map aj.sz).sum:Nat)<=1073741824->∃r,nU l s=some r/\s<=r/\(r<=1000->∀x∈l,Sm x)
 | [],s,_,_=>⟨s,rfl,by omega,fun _ _ h=>by cases h⟩
 | x::l,s,h0,g=>by
  simp only [List.map_cons,List.sum_cons] at g;have h1:=x.bq;have m:=Sl.ej (f:=Z7.sz) x.aB (fun x=>Z7.pos x);have o:=Sl.ej (f:=Z9.sz) x.aG (fun x=>Z9.pos x);have p:=Sl.ej (f:=Z8.sz) x.aL (fun x=>Z8.pos x);have q:=Sl.ej (f:=aC.sz) x.bp (fun x=>aC.pos x);have t:=Sl.ej (f:=Bs.sz) x.aX (fun x=>Bs.jW x);have u:Sl.sz Z7.sz x.aB=1+(x.aB.l.map Z7.sz).sum:=rfl
  rw [nU];simp only [Ab.on];rw [fP (by omega),oB,fP (by omega),oB,fP (by omega),oB,fP (by omega),oB,fP (by omega),oB,fP (by omega),oB];obtain⟨z,e,v,a2,a3⟩:=JO x.aB.l _ (show 0<=s+((((((1:Int)+((x.aB.l.length:Nat):Int))+((x.aG.l.length:Nat):Int))+((x.aL.l.length:Nat):Int))+((x.bp.l.length:Nat):Int))+((x.aX.l.length:Nat):Int)) by omega) (by omega)
  rw [e,oB];obtain⟨r,i,w,j⟩:=JP l z (by omega) (by omega);refine⟨r,i,by omega,fun hr y b=>?_⟩;rcases List.mem_cons.1 b with rfl|b
  ·exact⟨by omega,by omega,by omega,by omega,fun f k=>by have:=a3 f k; omega⟩
  ·exact j hr y b
theorem Ug {d:ak}(i:d.sz<=1048576):∃b,tG d=some b/\(b=false->d.aq.l.length<=70/\∀x∈d.aq.l,Sm x):=by
 have h1:=d.bq;have j:Sl.sz aj.sz d.aq=1+(d.aq.l.map aj.sz).sum:=rfl;unfold tG;by_cases h:d.aq.l.length<=70
 ·rw [show decide ((70:Int)<((d.aq.l.length:Nat):Int))=false from dF (by omega),cond_false];obtain⟨r,e,k,f⟩:=JP d.aq.l 0 (by omega) (by omega);rw [e,oB];simp only [Ab.on];exact⟨_,rfl,fun g=>⟨h,f (by have:=of_decide_eq_false g; omega)⟩⟩
 ·rw [show decide ((70:Int)<((d.aq.l.length:Nat):Int))=true from dT (by omega)];exact⟨true,rfl,fun h=>by cases h⟩
def bD {α:Type}(l:List α):Sl α:=⟨l.isEmpty,l⟩
noncomputable def cR:af->af:=@af.rec (fun _=>af) (fun _=>List af) (fun k i t _ _ y b=>af.mk k i t b.isEmpty b y) [] (fun _ _ b f=>b::f)
theorem Uh (k i:Int) (t:Bs) (nl:Bool) (l:List af) (y:Sl Bs):cR (af.mk k i t nl l y)=af.mk k i t l.isEmpty (l.map cR) y:=by
 have key:∀l:List af,(@af.rec_1 (fun _=>af) (fun _=>List af) (fun k i t _ _ y b=>af.mk k i t b.isEmpty b y) [] (fun _ _ b f=>b::f) l:List af)=l.map cR:=by
  intro l;induction l with
  | nil=>rfl
  | cons a r b=>exact congrArg (cR a::·) b
 show af.mk k i t (List.isEmpty (@af.rec_1 (fun _=>af) (fun _=>List af) (fun k i t _ _ y b=>af.mk k i t b.isEmpty b y) [] (fun _ _ b f=>b::f) l)) (@af.rec_1 (fun _=>af) (fun _=>List af) (fun k i t _ _ y b=>af.mk k i t b.isEmpty b y) [] (fun _ _ b f=>b::f) l) y=_;rw [key];cases l<;>rfl
theorem mj (v:af):cR v=af.mk v.an v.bl v.bg v.aD.l.isEmpty (v.aD.l.map cR) v.aN:=by cases v; exact Uh ..
noncomputable def kO (x:bQ):bQ:=bQ.mk x.aa (cR x.gh)
noncomputable def fA (x:aC):aC:=aC.mk x.aa (bD (x.aH.l.map kO))
noncomputable def b9 (x:Z8):Z8:=Z8.mk x.aa x.aA x.bY (cR x.cB) (bD (x.bp.l.map fA))
noncomputable def dM (x:Z7):Z7:=Z7.mk x.aa (bD (x.aH.l.map b9)) x.aA (bD (x.bp.l.map fA))
noncomputable def fB (x:Z9):Z9:=Z9.mk x.aa (bD (x.bp.l.map fA))
noncomputable def bT (t:aj):aj:=aj.mk t.an t.aa t.aX (bD (t.bp.l.map fA)) (bD (t.aB.l.map dM)) (bD (t.aG.l.map fB)) (bD (t.aL.l.map b9))
theorem oM {α:Type}{z:Nat}{s:List α}{x:α}(b:z<=200) (h:s.length+1<=10000000):aW z (bD s) (⟨false,[x]⟩:Sl α)=some (bD (s++[x])):=by
 unfold aW; rw [if_pos]
 ·unfold bD; simp
 ·have:((bD s).l.length+[x].length)*z<=((bD s).l.length+[x].length)*200:=Nat.mul_le_mul_left _ b;simp only [bD,List.length_cons,List.length_nil] at this ⊢;unfold cS; omega
theorem JQ (s:Sl Bs) (h:s.nl=true->s.l=[]) (hl:s.l.length<=1048576):od s=some s:=by
 unfold od;obtain⟨nl,l⟩:=s;cases nl with
 | true=>have:=h rfl; simp only at this; subst this; rfl
 | false =>
  simp only [cond_false];rw [gN (by omega) (by simp at hl ⊢; omega)];simp
theorem JR (s:Sl Int) (h:s.nl=true->s.l=[]) (hl:s.l.length<=1048576):lS s=some s:=by
 unfold lS;obtain⟨nl,l⟩:=s;cases nl with
 | true=>have:=h rfl; simp only at this; subst this; rfl
 | false =>
  simp only [cond_false];rw [gN (by omega) (by simp at hl ⊢; omega)];simp
theorem JS {rec:af->Option af}:∀(l:List af) (s:List af),(∀x∈l,rec x=some (cR x))->s.length+l.length<=5000000->lQ rec l (bD s)=some (bD (s++l.map cR))
 | [],s,_,_=>by rw [lQ,List.map_nil,List.append_nil]
 | x::l,s,hx,hl=>by
  rw [List.length_cons] at hl;rw [lQ];simp only [Ab.on];rw [hx x (.head _),oB,oM (by omega) (by omega),oB,JS l (s++[cR x]) (fun y b=>hx y (.tail _ b)) (by simp; omega),List.append_assoc]; rfl
theorem JT:∀(n:Nat) (v:af),2*v.sz+2<=n->v.sz<=1048576->v.wf->iT n v=some (cR v)
 | 0,_,h,_,_=>by omega
 | 1,v,h,_,_=>by have:=v.bq; omega
 | n+2,v,h,g,hw=>by
  have i:=v.bq;have hlen:v.aD.l.length<=1048576:=by have:=Sl.ej (f:=af.sz) v.aD (fun x=>x.pos); omega
  have b:v.aN.l.length<=1048576:=by have:=Sl.ej (f:=Bs.sz) v.aN (fun x=>Bs.jW x); omega
  have e:=JS (rec:=iT n) v.aD.l [] (fun x hx=>by
   have:=af.mc hx;exact JT n x (by omega) (by omega) ((af.An hw).2.2 x hx)) (by simp; omega)
  rw [List.nil_append] at e;rw [iT,tQ];simp only [Ab.on];rw [show (Sl.nil:Sl af)=bD [] from rfl,e];simp only [oB];rw [JQ _ (af.FP hw).1 b,oB,mj];unfold bD;cases v.aD.l<;>rfl
theorem JU {v:af}(b:v.sz<=1048576) (hw:v.wf):mJ v=some (cR v):=by unfold mJ; exact JT F0 v (by rw [fK]; omega) b hw
theorem JV {α:Type}{p:α->Prop}{l:List α}(hl:l.length<=cS) (h:∀x∈l,p x):Sl.wf p (bD l):=⟨fun e=>by unfold bD at e ⊢; exact List.isEmpty_iff.1 e,hl,h⟩
theorem Ui {α:Type}{f:α->Nat}(l:List α):Sl.sz f (bD l)=1+(l.map f).sum:=rfl
theorem zc {α:Type}{f:α->Nat}{c:α->α}:∀{l:List α},(∀x∈l,f (c x)=f x)->((l.map c).map f).sum=(l.map f).sum
 | [],_=>rfl
 | x::l,h=>by simp only [List.map_cons,List.sum_cons,h x (.head _),zc fun y b=>h y (.tail _ b)]
theorem oN {α:Type}{f:α->Nat}{c:α->α}(s:Sl α) (h:∀x∈s.l,f (c x)=f x):Sl.sz f (bD (s.l.map c))=Sl.sz f s:=by rw [Ui,zc h]; rfl
theorem oO {α:Type}{p:α->Prop}{c:α->α}{s:Sl α}(b:Sl.wf p s) (h:∀x∈s.l,p (c x)):Sl.wf p (bD (s.l.map c)):=JV (by rw [List.length_map]; exact b.2.1) (fun y f=>by obtain⟨x,hx,rfl⟩:=List.mem_map.1 f; exact h x hx)
theorem D4:∀(n:Nat) (v:af),v.sz<=n->(cR v).sz=v.sz
 | 0,v,h=>by have:=v.pos; omega
 | n+1,v,h=>by
  rw [mj,af.bq,af.bq v];show 0+1+1+Bs.sz v.bg+Sl.sz af.sz (⟨_,v.aD.l.map cR⟩:Sl af)+Sl.sz Bs.sz v.aN=_;rw [show Sl.sz af.sz (⟨v.aD.l.isEmpty,v.aD.l.map cR⟩:Sl af)=1+((v.aD.l.map cR).map af.sz).sum from rfl,zc fun x hx=>D4 n x (by have:=af.mc hx; omega)];rfl
theorem D5:∀(n:Nat) (v:af),v.sz<=n->v.wf->(cR v).wf
 | 0,v,h,_=>by have:=v.pos; omega
 | n+1,v,h,hw=>by
  rw [mj,af.qQ];have h1:i64 v.an:=af.Ny hw;have b:i64 v.bl:=af.NA hw;have f:Sl.wf (fun _=>True) v.aN:=af.FP hw;refine⟨h1,b,trivial, ?_,f,trivial⟩;refine⟨fun e=>?_, ?_,fun y g=>?_⟩
  ·have e:v.aD.l.isEmpty=true:=e;show v.aD.l.map cR=[];rw [List.isEmpty_iff.1 e]; rfl
  ·show (v.aD.l.map cR).length<=_;rw [List.length_map]; exact(af.An hw).2.1
  ·obtain⟨x,hx,rfl⟩:=List.mem_map.1 g;exact D5 n x (by have:=af.mc hx; omega) ((af.An hw).2.2 x hx)
theorem Uj (x:bQ):(kO x).sz=x.sz:=by rw [bQ.bq,bQ.bq x]; show _+(cR x.gh).sz=_; rw [D4 _ _ (Nat.le_refl _)]; rfl
theorem zd (x:aC):(fA x).sz=x.sz:=by rw [aC.bq,aC.bq x]; show _+Sl.sz bQ.sz (bD (x.aH.l.map kO))=_; rw [oN _ fun x _=>Uj x]; rfl
theorem D6 (x:Z8):(b9 x).sz=x.sz:=by rw [Z8.bq,Z8.bq x]; show _+(cR x.cB).sz+Sl.sz aC.sz (bD (x.bp.l.map fA))=_; rw [D4 _ _ (Nat.le_refl _),oN _ fun x _=>zd x]; rfl
theorem JW (x:Z7):(dM x).sz=x.sz:=by rw [Z7.bq,Z7.bq x]; show 0+Bs.sz x.aa+Sl.sz Z8.sz (bD (x.aH.l.map b9))+az.sz x.aA+Sl.sz aC.sz (bD (x.bp.l.map fA))=_; rw [oN _ fun x _=>zd x,oN _ fun x _=>D6 x]
theorem Uk (x:Z9):(fB x).sz=x.sz:=by rw [Z9.bq,Z9.bq x]; show _+Sl.sz aC.sz (bD (x.bp.l.map fA))=_; rw [oN _ fun x _=>zd x]; rfl
theorem JX (x:aj):(bT x).sz=x.sz:=by
 rw [aj.bq,aj.bq x];show 0+1+Bs.sz x.aa+Sl.sz Bs.sz x.aX+Sl.sz aC.sz (bD (x.bp.l.map fA))+Sl.sz Z7.sz (bD (x.aB.l.map dM))+Sl.sz Z9.sz (bD (x.aG.l.map fB))+Sl.sz Z8.sz (bD (x.aL.l.map b9))=_;rw [oN _ fun x _=>zd x,oN _ fun x _=>JW x,oN _ fun x _=>Uk x,oN _ fun x _=>D6 x]
theorem Ul {x:bQ}(h:x.wf):(kO x).wf:=⟨trivial,D5 _ _ (Nat.le_refl _) (bQ.FQ h),trivial⟩
theorem ze {x:aC}(h:x.wf):(fA x).wf:=⟨trivial,oO (aC.pq h) fun a b=>Ul ((aC.pq h).2.2 a b),trivial⟩
theorem JY {x:Z8}(h:x.wf):(b9 x).wf:=⟨trivial,h.2.1,trivial,D5 _ _ (Nat.le_refl _) (Z8.FT h),oO (Z8.iv h) fun a b=>ze ((Z8.iv h).2.2 a b),trivial⟩
theorem Um {x:Z7}(h:x.wf):(dM x).wf:=⟨trivial,oO (Z7.pq h) fun a b=>JY ((Z7.pq h).2.2 a b),h.2.2.1,oO (Z7.iv h) fun a b=>ze ((Z7.iv h).2.2 a b),trivial⟩
theorem Un {x:Z9}(h:x.wf):(fB x).wf:=⟨trivial,oO (Z9.iv h) fun a b=>ze ((Z9.iv h).2.2 a b),trivial⟩
theorem Uo {x:aj}(h:x.wf):(bT x).wf:=⟨h.1,trivial,h.2.2.1,oO (aj.iv h) fun a b=>ze ((aj.iv h).2.2 a b),oO (aj.xm h) fun a b=>Um ((aj.xm h).2.2 a b),oO (aj.Ao h) fun a b=>Un ((aj.Ao h).2.2 a b),oO (aj.xo h) fun a b=>JY ((aj.xo h).2.2 a b),trivial⟩
theorem JZ (n:Bs):∀(l s:List bQ),(∀x∈l,x.sz<=1048576/\x.wf)->s.length+l.length<=5000000->oe l (aC.mk n (bD s))=some (aC.mk n (bD (s++l.map kO)))
 | [],s,_,_=>by rw [oe,List.map_nil,List.append_nil]
 | x::l,s,hx,hl=>by
  rw [List.length_cons] at hl;rw [oe];simp only [Ab.on];have:=x.bq;rw [JU (by have:=(hx x (.head _)).1; omega) (bQ.FQ (hx x (.head _)).2),oB,oM (by omega) (by omega),oB,JZ n l (s++[_]) (fun y b=>hx y (.tail _ b)) (by simp; omega),List.append_assoc]; rfl
theorem J1:∀(l s:List aC),(∀x∈l,x.sz<=1048576/\x.wf)->s.length+l.length<=5000000->lR l (bD s)=some (bD (s++l.map fA))
 | [],s,_,_=>by rw [lR,List.map_nil,List.append_nil]
 | x::l,s,hx,hl=>by
  rw [List.length_cons] at hl;rw [lR];simp only [Ab.on];have h1:=(hx x (.head _)).1;have i:=x.bq;have j:=Sl.ej (f:=bQ.sz) x.aH bQ.pos;rw [show (Sl.nil:Sl bQ)=bD [] from rfl,JZ x.aa x.aH.l [] (fun a b=>⟨by have:=Sl.cW (f:=bQ.sz) b; omega,(aC.pq (hx x (.head _)).2).2.2 a b⟩) (by simp; omega),oB,oM (by omega) (by omega),oB,J1 l (s++[_]) (fun y g=>hx y (.tail _ g)) (by simp; omega),List.append_assoc]; rfl
theorem zf {s:Sl aC}(h:Sl.sz aC.sz s<=1048576) (hw:Sl.wf aC.wf s):mK s=some (bD (s.l.map fA)):=by
 unfold mK;have g:=Sl.ej (f:=aC.sz) s aC.pos;rw [show (Sl.nil:Sl aC)=bD [] from rfl,J1 s.l [] (fun a b=>⟨by have:=Sl.cW (f:=aC.sz) b; omega,hw.2.2 a b⟩) (by simp; omega)]; rfl
theorem J2:∀(l s:List Z8),(∀x∈l,x.sz<=1048576/\x.wf)->s.length+l.length<=5000000->og l (bD s)=some (bD (s++l.map b9))
 | [],s,_,_=>by rw [og,List.map_nil,List.append_nil]
 | x::l,s,hx,hl=>by
  rw [List.length_cons] at hl;rw [og];simp only [Ab.on];obtain⟨h1,hw⟩:=hx x (.head _);have f:=x.bq;have g:=x.aA.rQ;rw [JR _ (az.FR (Z8.u6 hw)).1 (by omega),oB,JU (by omega) (Z8.FT hw),oB,zf (by omega) (Z8.iv hw),oB,oM (by omega) (by omega),oB,J2 l (s++[_]) (fun y b=>hx y (.tail _ b)) (by simp; omega),List.append_assoc]; rfl
theorem J3 {s:Sl Z8}(h:Sl.sz Z8.sz s<=1048576) (hw:Sl.wf Z8.wf s):ri s=some (bD (s.l.map b9)):=by
 unfold ri;have g:=Sl.ej (f:=Z8.sz) s Z8.pos;rw [show (Sl.nil:Sl Z8)=bD [] from rfl,J2 s.l [] (fun a b=>⟨by have:=Sl.cW (f:=Z8.sz) b; omega,hw.2.2 a b⟩) (by simp; omega)]; rfl
theorem D7:∀(l:List af) (s:Sl Bs),s.l.length+l.length<=3000000->∃r,oa l s=some r/\r.l.length<=s.l.length+l.length
 | [],s,_=>⟨s,rfl,by simp⟩
 | x::r,s,h=>by
  simp only [List.length_cons] at h;rw [oa];simp only [Ab.on];cases hk:decide (x.an=(3:Int))&&!(bif (decide (x.an=(3:Int))) then lN s x.bg else false)
  ·simp only [cond_false,oB];obtain⟨z,b,f⟩:=D7 r s (by omega);exact⟨z,b,by simp; omega⟩
  ·simp only [cond_true];rw [gN (by omega) (by simp; omega),oB,oB];obtain⟨z,b,f⟩:=D7 r ⟨s.nl&&[x.bg].isEmpty,s.l++[x.bg]⟩ (by simp; omega);exact⟨z,b,by simp at f ⊢; omega⟩
theorem D8 (n a:Bs):∀(l:List aC) (s:Sl af),s.l.length+l.length<=3000000->∃r,n9 n a l s=some r/\r.l.length<=s.l.length+l.length
 | [],s,_=>⟨s,rfl,by simp⟩
 | x::r,s,h=>by
  simp only [List.length_cons] at h;rw [n9];simp only [Ab.on];cases (lP x a).2&&(x.aa==n)
  ·obtain⟨z,b,f⟩:=D8 n a r s (by omega);exact⟨z,b,by simp; omega⟩
  ·rw [cond_true];have g:aW 80 s (⟨false,[(lP x a).1]⟩:Sl af)=some ⟨s.nl&&[(lP x a).1].isEmpty,s.l++[(lP x a).1]⟩:=by
    unfold aW; rw [if_pos];have h1:(s.l.length+[(lP x a).1].length)*80<=3000000*80:=Nat.mul_le_mul_right _ (by simp; omega);refine⟨?_, ?_⟩<;>(unfold cS; simp only [List.length_cons,List.length_nil] at h1 ⊢; omega)
   rw [g,oB,oB];obtain⟨z,b,f⟩:=D8 n a r ⟨s.nl&&[(lP x a).1].isEmpty,s.l++[(lP x a).1]⟩ (by simp; omega);exact⟨z,b,by simp at f ⊢; omega⟩
theorem zg {a:Sl aC}(h:a.l.length<=1048576):∃r,pL a=some r/\r.l.length<=1048576:=by
 unfold pL vn;obtain⟨x,f,b⟩:=D8 [116,97,103] [110,97,109,101] a.l (Sl.nil:Sl af) (by simp [Sl.nil]; omega);rw [f];simp only [Ab.on,oB];obtain⟨r,f1,f2⟩:=D7 x.l (Sl.nil:Sl Bs) (by simp [Sl.nil] at b ⊢; omega);rw [f1];exact⟨r,rfl,by simp [Sl.nil] at b f2; omega⟩
theorem Up (a b:Sl Bs) (j:a.l.length<=2000000) (k:b.l.length<=2000000):∃nl,tR ⟨false,[a,b]⟩=some ⟨nl,a.l++b.l⟩/\(nl=true->a.l++b.l=[]):=by
 have hg:vu ((a.l.length:Int)+(b.l.length:Int))=some ⟨decide ((a.l.length:Int)+(b.l.length:Int)=0),[]⟩:=by
  unfold vu; rw [if_pos ⟨by omega,by unfold cS; omega,by unfold cS; omega⟩]
 refine⟨(decide ((a.l.length:Int)+(b.l.length:Int)=0)&&a.l.isEmpty)&&b.l.isEmpty, ?_, ?_⟩
 ·unfold tR vw;simp only [List.length_cons,List.length_nil,Nat.zero_add,Nat.reduceAdd,rm];have h1:cG 0 (a.l.length:Int)=some (a.l.length:Int):=by rw [fP (by omega)]; simp
  have f:cG (a.l.length:Int) (b.l.length:Int)=some ((a.l.length:Int)+(b.l.length:Int)):=fP (by omega);have g:¬((a.l.length:Int)<0):=by omega
  have i:¬((a.l.length:Int)+(b.l.length:Int)<0):=by omega
  have d1:decide ((0:Int)<2)=true:=by decide
  simp only [List.getElem?_cons_zero,List.getElem?_cons_succ,oB,h1,f,hg,dF g,dF i,cond_true,cond_false,yf,ye,rm,vv,yd,
   Int.natCast_zero,Nat.zero_add,Nat.reduceAdd,List.length_cons,List.length_nil]
  have m:∀(x y:Nat),x<y->decide (((x:Nat):Int)<((y:Nat):Int))=true:=fun x y h=>dT (by omega);have dn:∀(x y:Nat),¬x<y->decide (((x:Nat):Int)<((y:Nat):Int))=false:=fun x y h=>dF (by omega);rw [gN (by decide) (by simp; omega)];simp;rw [gN (by decide) (by simp; omega)]
  first|done|simp
 ·intro h;simp only [Bool.and_eq_true,List.isEmpty_iff] at h;rw [h.1.2,h.2]; rfl
theorem D9:∀(l:List Bs) (n:Nat),rf (fun y=>tP y (Sl.nil:Sl Bs)) l n=Sum.inl ()
 | [],_=>rfl
 | x::l,n=>by
  rw [rf];simp only [Ab.on];rw [show tP x (Sl.nil:Sl Bs)=false from rfl];exact D9 l (n+1)
def sg:Z3:=Z3.mk (Sl.nil:Sl Bs) (Sl.nil:Sl Bs)
theorem J4 (s:Sl Bs):rj sg s=true:=by
 have h:oc s (Sl.nil:Sl Bs)=false:=by
  unfold oc vr vp;rw [D9]; rfl
 unfold rj sg;rw [h]; rfl
theorem J5 {a b:Sl Bs}(f:a.l.length<=2000000) (g:b.l.length<=2000000):∃r,tR ⟨false,[a,b]⟩=some r:=by
 obtain⟨nl,e,_⟩:=Up a b f g;exact⟨_,e⟩
theorem J6 {g:Sl Bs}(j:g.l.length<=1048576) (k:Int) (n:Bs) (i:Sl Bs) (D:Sl aC) (M:Sl Z9) (N:Sl Z8):∀(l s:List Z7),(∀x∈l,x.sz<=1048576/\x.wf)->s.length+l.length<=5000000 ->
  mL sg g l (aj.mk k n i D (bD s) M N)=some (aj.mk k n i D (bD (s++l.map dM)) M N)
 | [],s,_,_=>by rw [mL,List.map_nil,List.append_nil]
 | x::l,s,hx,hl=>by
  rw [List.length_cons] at hl;rw [mL];simp only [Ab.on];obtain⟨h1,hw⟩:=hx x (.head _);have q:=x.bq;have t:=Sl.ej (f:=aC.sz) x.bp aC.pos;have u:=x.aA.rQ;obtain⟨r,m,v⟩:=zg (a:=x.bp) (by omega);obtain⟨w,o⟩:=J5 (a:=g) (b:=r) (by omega) (by omega);rw [m,oB,o,oB,J4,cond_true,JR _ (az.FR (Z7.u6 hw)).1 (by omega),oB,zf (by omega) (Z7.iv hw),oB,J3 (by omega) (Z7.pq hw),oB,
   oM (by omega) (by omega),oB,oB,J6 j k n i D M N l (s++[_]) (fun y p=>hx y (.tail _ p)) (by simp; omega),List.append_assoc]; rfl
theorem J7 {j:aj}{i:Sl Bs}(m:i.l.length<=1048576) (k:Int) (n:Bs) (g:Sl Bs) (D:Sl aC) (F:Sl Z7) (N:Sl Z8):∀(l s:List Z9),(∀x∈l,x.sz<=1048576/\x.wf)->s.length+l.length<=5000000 ->
  kw sg j i l (aj.mk k n g D F (bD s) N)=some (aj.mk k n g D F (bD (s++l.map fB)) N)
 | [],s,_,_=>by rw [kw,List.map_nil,List.append_nil]
 | x::l,s,hx,hl=>by
  rw [List.length_cons] at hl;rw [kw];simp only [Ab.on];obtain⟨h1,hw⟩:=hx x (.head _);have z:=x.bq;have B:=Sl.ej (f:=aC.sz) x.bp aC.pos;obtain⟨r,o,C⟩:=zg (a:=x.bp) (by omega);obtain⟨E,p⟩:=J5 (a:=i) (b:=r) (by omega) (by omega);have fin:∀b:Bool,b=true->(Option.bind (bif b then((mK x.bp).bind fun q=>(aW 40 (bD s) (⟨false,[(Z9.mk x.aa q)]⟩:Sl Z9)).bind fun t=>some (aj.mk k n g D F t N)) else(some (aj.mk k n g D F (bD s) N))) fun u=>kw sg j i l u)=some (aj.mk k n g D F (bD (s++(x::l).map fB)) N):=by
   intro b v;subst v;rw [cond_true,zf (by omega) (Z9.iv hw),oB,oM (by omega) (by omega),oB,oB,J7 m k n g D F N l (s++[_]) (fun y w=>hx y (.tail _ w)) (by simp; omega),List.append_assoc]; rfl
  cases hk:decide (j.an=(4:Int))
  ·simp only [Bool.not_false,Bool.not_true,aR,cond_false,Bool.true_or];exact fin _ rfl
  ·simp only [Bool.not_false,Bool.not_true,aR,cond_true,Bool.false_or,o,oB,p,J4];exact fin _ rfl
theorem Uq {t:aj}(i:t.sz<=1048576) (hw:t.wf):vz sg t=some (bT t):=by
 have j:=t.bq;have k:=Sl.ej (f:=aC.sz) t.bp aC.pos;have m:=Sl.ej (f:=Bs.sz) t.aX (fun x=>Bs.jW x);have o:=Sl.ej (f:=Z7.sz) t.aB Z7.pos;have p:=Sl.ej (f:=Z9.sz) t.aG Z9.pos;obtain⟨r,g,b⟩:=zg (a:=t.bp) (by omega);unfold vz;rw [g,oB,JQ _ (aj.NC hw).1 (by omega),oB,zf (by omega) (aj.iv hw),oB,J3 (by omega) (aj.xo hw),oB,
  show (Sl.nil:Sl Z7)=bD [] from rfl,show (Sl.nil:Sl Z9)=bD [] from rfl,J6 b _ _ _ _ _ _ t.aB.l [] (fun x hx=>⟨by have:=Sl.cW (f:=Z7.sz) hx; omega,(aj.xm hw).2.2 x hx⟩) (by simp; omega),oB]
 simp only [Ab.on];rw [J7 b _ _ _ _ _ _ t.aG.l [] (fun x hx=>⟨by have:=Sl.cW (f:=Z9.sz) hx; omega,(aj.Ao hw).2.2 x hx⟩) (by simp; omega),oB];rfl
theorem Ur {d e:ak}(k:d.aq.l.length<=1048576) (he:e.aq.l.length<=1048576){a b:az}(f:dJ a.aF) (g:dJ b.aF) (m:gK e b.aa a.aa=gK d b.aa a.aa):jH e a b=jH d a b:=by
 have h1:=f.2; have o:=g.2;obtain⟨v,hv,hw⟩:=y5 k he F0 a b f.2 g.2 m (by rw [fK]; omega);have i:=(yY k f g).2;have j:=(yY he f g).2;unfold xH at i j;rw [hv] at i; rw [hw] at j;rw [<- oJ i,<- oJ j]
def sj (l:List Z7):List Bs:=l.flatMap fun f=>f.aA.aa::f.aH.l.map fun a=>a.aA.aa
def wC (d:ak) (t:aj) (n:Bs):List Bs:=sj t.aB.l++(t.aL.l.map (fun a=>a.aA.aa)++((if t.an=3 then t.aG.l.map Z9.aa else [])++(t.aX.l++(if t.an=2 then(d.aq.l.filter fun x=>x.aX.l.contains n).map aj.aa else []))))
def qu (d:ak) (n:Bs):Bool:=(aT d.aq.l n).2
def sc (d:ak) (n:Bs):List Bs:=wC d (aT d.aq.l n).1 n
def Rd (_:ak) (_:Bs):Prop:=True
def D_ (_:ak) (_:Bs):Bool:=true
theorem Us {d:ak}{n:Bs}:D_ d n=true↔Rd d n:=⟨fun _=>trivial,fun _=>rfl⟩
theorem Rd.step {d:ak}{b c:Bs}(_:Rd d b) (_:qu d b=true) (_:c∈sc d b):Rd d c:=trivial
theorem Ut {d:ak}:Rd d ([81,117,101,114,121]:Bs):=trivial
def ng (d:ak):List aj:=d.aq.l.filter fun t=>D_ d t.aa
theorem sn (d:ak):ng d=d.aq.l:=List.filter_eq_self.2 fun _ _=>rfl
noncomputable def cn (d:ak):ak:=ak.mk (bD ((ng d).map bT))
theorem zh (a:aj) (r:List aj) (n:Bs):aT (a::r) n=if a.aa=n then(a,true) else aT r n:=by
 unfold aT;rw [List.find?_cons];by_cases h:a.aa=n
 ·rw [beq_iff_eq.2 h,if_pos h]
 ·rw [beq_eq_false_iff_ne.2 h,if_neg h]
theorem J8 {n:Bs}:∀l:List aj,aT (l.map bT) n=(bT (aT l n).1,(aT l n).2)
 | []=>rfl
 | a::r=>by
  rw [List.map_cons,zh a r n,zh];by_cases b:a.aa=n
  ·rw [if_pos b,if_pos (show (bT a).aa=n from b)]
  ·rw [if_neg b,if_neg (show ¬(bT a).aa=n from b)]; exact J8 r
theorem jM {d:ak}{n:Bs}(_:Rd d n):aT (cn d).aq.l n=(bT (aT d.aq.l n).1,(aT d.aq.l n).2):=by
 show aT ((ng d).map bT) n=_;rw [sn]; exact J8 d.aq.l
theorem J9 {d:ak}{n:Bs}(h:qu d n=true):(aT d.aq.l n).1∈d.aq.l/\(aT d.aq.l n).1.aa=n:=by
 unfold qu aT at h;unfold aT;cases e:d.aq.l.find? (fun t=>t.aa==n) with
 | none=>rw [e] at h; cases h
 | some t =>
  have h1:=List.find?_some e;exact⟨List.mem_of_find?_eq_some e,beq_iff_eq.1 h1⟩
theorem zi {d:ak}{t:aj}:t∈ng d↔t∈d.aq.l/\Rd d t.aa:=by
 rw [sn]; exact⟨fun h=>⟨h,trivial⟩,fun h=>h.1⟩
theorem J_ (d:ak):(cn d).sz<=d.sz:=by
 rw [ak.bq,ak.bq d];show 0+(1+(((ng d).map bT).map aj.sz).sum)<=0+(1+(d.aq.l.map aj.sz).sum);rw [sn,zc fun x _=>JX x];omega
theorem Uu {d:ak}(h:d.wf):(cn d).wf:=by
 refine⟨JV ?_ fun x hx=>?_,trivial⟩
 ·rw [List.length_map,sn];exact(ak.xq h).2.1
 ·obtain⟨t,ht,rfl⟩:=List.mem_map.1 hx;exact Uo ((ak.xq h).2.2 t (zi.1 ht).1)
def Kn (d:ak) (n:Bs):Prop:=((aT d.aq.l n).2||cC n)=true
theorem wD {c:Z2}{n:Bs}(h:Kn c.Fd n):jB c n=false:=by
 unfold jB;simp only [Ab.on,iq];unfold Kn at h;cases h1:(aT c.Fd.aq.l n).2
 ·rw [h1,Bool.false_or] at h; rw [h]; rfl
 ·rfl
theorem J' (s:Sl Z8){f:Z8->Option Bool}(b:∀x∈s.l,f x=some false):∀(n i:Nat),i<=s.l.length->s.l.length<i+n->pN s f n i=some (-1:Int)
 | 0,i,h,g=>by omega
 | n+1,i,h,g=>by
  rw [pN];by_cases hi:i<s.l.length
  ·rw [dT (show ((i:Nat):Int)<((s.l.length:Nat):Int) from by omega),cond_true,List.getElem?_eq_getElem hi,oB,b _ (List.getElem_mem hi),oB,cond_false];exact J' s b n (i+1) (by omega) (by omega)
  ·rw [dF (show ¬((i:Nat):Int)<((s.l.length:Nat):Int) from by omega),cond_false]; rfl
theorem Ka (s:Sl Z9){f:Z9->Option Bool}(b:∀x∈s.l,f x=some false):∀(n i:Nat),i<=s.l.length->s.l.length<i+n->pR s f n i=some (-1:Int)
 | 0,i,h,g=>by omega
 | n+1,i,h,g=>by
  rw [pR];by_cases hi:i<s.l.length
  ·rw [dT (show ((i:Nat):Int)<((s.l.length:Nat):Int) from by omega),cond_true,List.getElem?_eq_getElem hi,oB,b _ (List.getElem_mem hi),oB,cond_false];exact Ka s b n (i+1) (by omega) (by omega)
  ·rw [dF (show ¬((i:Nat):Int)<((s.l.length:Nat):Int) from by omega),cond_false]; rfl
theorem Kc (s:Sl Bs){f:Bs->Option Bool}(b:∀x∈s.l,f x=some false):∀(n i:Nat),i<=s.l.length->s.l.length<i+n->pM s f n i=some (-1:Int)
 | 0,i,h,g=>by omega
 | n+1,i,h,g=>by
  rw [pM];by_cases hi:i<s.l.length
  ·rw [dT (show ((i:Nat):Int)<((s.l.length:Nat):Int) from by omega),cond_true,List.getElem?_eq_getElem hi,oB,b _ (List.getElem_mem hi),oB,cond_false];exact Kc s b n (i+1) (by omega) (by omega)
  ·rw [dF (show ¬((i:Nat):Int)<((s.l.length:Nat):Int) from by omega),cond_false]; rfl
theorem Uv {s:Sl Z8}{f:Z8->Option Bool}(b:∀x∈s.l,f x=some false):tV s f=some s:=by
 unfold tV rp;rw [J' s b _ 0 (by omega) (by omega)]; rfl
theorem Uw {s:Sl Z9}{f:Z9->Option Bool}(b:∀x∈s.l,f x=some false):pS s f=some s:=by
 unfold pS rA;rw [Ka s b _ 0 (by omega) (by omega)]; rfl
theorem Ux {s:Sl Bs}{f:Bs->Option Bool}(b:∀x∈s.l,f x=some false):rB s f=some s:=by
 unfold rB q_;rw [Kc s b _ 0 (by omega) (by omega)]; rfl
theorem Ke {f:Z8->Bool}:∀(l:List Z8) (n:Nat),(∀x∈l,f x=false)->rq f l n=Sum.inl ()
 | [],_,_=>rfl
 | x::l,n,h=>by
  rw [rq];simp only [Ab.on,h x (.head _),cond_false];exact Ke l (n+1) fun y b=>h y (.tail _ b)
theorem Kf {c:Z2}(hc:c.dX=false){s:Sl Z8}(h:∀x∈s.l,Kn c.Fd x.aA.aa):pQ c s=some (s,false,c):=by
 have g1:∀x∈s.l,tU x c=false:=fun x hx=>by unfold tU; rw [wD (h x hx)]; rfl
 have g2:∀x∈s.l,rz x c=false:=fun x hx=>by unfold rz; rw [wD (h x hx)]; rfl
 unfold pQ;rw [Uv (f:=fun b=>some (rz b c)) fun x hx=>by rw [g2 x hx]];unfold yh yg;rw [Ke s.l 0 g1];simp only [Ab.on,oB];obtain⟨D,g⟩:=c;simp only at hc;subst hc;simp
theorem Kg {c:Z2}(hc:c.dX=false):∀(l s:List Z7),(∀f∈l,Kn c.Fd f.aA.aa/\∀x∈f.aH.l,Kn c.Fd x.aA.aa)->s.length+l.length<=5000000->mM l (bD s) c=some (bD (s++l),c)
 | [],s,_,_=>by rw [mM,List.append_nil]
 | x::l,s,h,hl=>by
  rw [List.length_cons] at hl;obtain⟨h1,b⟩:=h x (.head _);rw [mM];simp only [Ab.on];rw [Kf hc b,oB];simp only [Bool.not_false,cond_true,wD h1,Bool.or_false,cond_false];rw [oM (by omega) (by omega),oB,oB,Kg hc l (s++[_]) (fun y g=>h y (.tail _ g)) (by simp; omega),List.append_assoc];rfl
structure zj (d:ak) (t:aj):Prop where
 f:∀f∈t.aB.l,Kn d f.aA.aa/\∀x∈f.aH.l,Kn d x.aA.aa
 i:∀x∈t.aL.l,Kn d x.aA.aa
 m:t.an=3->∀x∈t.aG.l,Kn d x.aa
 p:∀y∈t.aX.l,Kn d y
 nl:t.aB=bD t.aB.l
 k1:t.an=1\/t.an=2->0<t.aB.l.length
 k3:t.an=3\/t.an=4->0<t.aG.l.length
 k5:¬(t.an=1\/t.an=2)->¬(t.an=3\/t.an=4)->0<t.aL.l.length
 lf:t.aB.l.length<=2000000
 lm:t.aG.l.length<=2000000
 lp:t.aX.l.length<=2000000
theorem Uy {c:Z2}(hc:c.dX=false){t:aj}(h:zj c.Fd t):tX c t=some (true,c,t):=by
 have q:=h.lm;have r:=h.lp;have s:=h.lf;have k:aj.mk t.an t.aa t.aX t.bp (bD t.aB.l) t.aG t.aL=t:=by rw [<- h.nl]
 have hC:Z2.mk c.Fd (c.dX||decide ((((t.aG.l.length:Nat):Int)+((t.aX.l.length:Nat):Int))<((t.aG.l.length:Nat):Int)+((t.aX.l.length:Nat):Int)))=c:=by
  obtain⟨D,u⟩:=c;simp only at hc;subst hc;simp
 unfold tX;rw [show (Sl.nil:Sl Z7)=bD [] from rfl,Kg hc t.aB.l [] h.f (by simp; omega),oB];simp only [Ab.on];rw [Kf hc h.i,oB,fP (by omega),oB];simp only [List.nil_append];have key:(bif decide (t.an=(3:Int)) then((pS t.aG (fun b=>some (oh b c))).bind fun o=>some (aj.mk t.an t.aa t.aX t.bp (bD t.aB.l) o t.aL)) else(some (aj.mk t.an t.aa t.aX t.bp (bD t.aB.l) t.aG t.aL)))=some t:=by
  by_cases hk:t.an=3
  ·rw [dT hk,cond_true,Uw (f:=fun b=>some (oh b c)) fun x hx=>by
    show some (oh x c)=_;unfold oh; rw [wD (h.m hk x hx)]; rfl,oB,k]
  ·rw [dF hk,cond_false,k]
 rw [key,oB,Ux (f:=fun b=>some (jB c b)) fun x hx=>by
  show some (jB c x)=_;rw [wD (h.p x hx)],oB]
 rw [hc];simp only [aR,Bool.not_false,if_true];rw [fP (by omega),oB];rw [hc] at hC;rw [hC];have d1:(bif (decide (t.an=(1:Int))) then((decide (t.an=(1:Int)))) else((decide (t.an=(2:Int)))))=decide (t.an=1\/t.an=2):=by
  by_cases h1:t.an=1<;>by_cases j:t.an=2<;>simp [h1,j]
 have d3:(bif (decide (t.an=(3:Int))) then((decide (t.an=(3:Int)))) else((decide (t.an=(4:Int)))))=decide (t.an=3\/t.an=4):=by
  by_cases h1:t.an=3<;>by_cases j:t.an=4<;>simp [h1,j]
 rw [d1,d3];by_cases h1:t.an=1\/t.an=2
 ·rw [dT h1,cond_true,dT (show (0:Int)<((t.aB.l.length:Nat):Int) from by have:=h.k1 h1; omega)]
 ·rw [dF h1,cond_false];by_cases g:t.an=3\/t.an=4
  ·rw [dT g,cond_true,dT (show (0:Int)<((t.aG.l.length:Nat):Int) from by have:=h.k3 g; omega)]
  ·rw [dF g,cond_false,dT (show (0:Int)<((t.aL.l.length:Nat):Int) from by have:=h.k5 h1 g; omega)];rfl
theorem Kh {c:Z2}(hc:c.dX=false):∀(l s:List aj),(∀t∈l,zj c.Fd t)->s.length+l.length<=5000000->mN l (bD s) c=some (bD (s++l),c)
 | [],s,_,_=>by rw [mN,List.append_nil]
 | t::l,s,h,hl=>by
  rw [List.length_cons] at hl;rw [mN];simp only [Ab.on];rw [Uy hc (h t (.head _)),oB];simp only [cond_true];rw [oM (by omega) (by omega),oB,oB,Kh hc l (s++[_]) (fun y b=>h y (.tail _ b)) (by simp; omega),List.append_assoc];rfl
theorem Uz {D:ak}(b:D.aq=bD D.aq.l) (hl:D.aq.l.length<=2000000) (h:∀t∈D.aq.l,zj D t):vG (Z2.mk D false)=some (Z2.mk D false):=by
 unfold vG;rw [show (Sl.nil:Sl aj)=bD [] from rfl,Kh (c:=Z2.mk D false) rfl D.aq.l [] h (by simp; omega),oB];simp only [Ab.on,List.nil_append];rw [<- b]
theorem Ki {d:ak}(b:d.sz<=1048576) (hw:d.wf):∀(n i:Nat),i<=d.aq.l.length->d.aq.l.length<i+n->p_ d (Sl.nil:Sl Bs) (Sl.nil:Sl Bs) n i (Z2.mk (ak.mk (bD ((d.aq.l.take i).map bT))) false)=v7 (Z2.mk (ak.mk (bD (d.aq.l.map bT))) false)
 | 0,i,h,g=>by omega
 | n+1,i,h,g=>by
  have o:=d.bq;have a2:=Sl.ej (f:=aj.sz) d.aq aj.pos;rw [p_];by_cases hi:i<d.aq.l.length
  ·have hm:=List.getElem_mem hi;have a3:=Sl.cW (f:=aj.sz) hm;have a4:=(d.aq.l[i]).bq;have a5:=Sl.ej (f:=aC.sz) (d.aq.l[i]).bp aC.pos;obtain⟨r,j,p⟩:=zg (a:=(d.aq.l[i]).bp) (by omega);have k:oc r (Sl.nil:Sl Bs)=false:=by
    unfold oc vr vp;rw [D9]; rfl
   rw [dT (show ((i:Nat):Int)<((d.aq.l.length:Nat):Int) from by omega),cond_true,List.getElem?_eq_getElem hi,oB,xU,j,oB,BN,k,oB,Bool.not_false,cond_true,
    PM,show Z3.mk (Sl.nil:Sl Bs) (Sl.nil:Sl Bs)=sg from rfl,Uq (by omega) ((ak.xq hw).2.2 _ hm),oB,oM (by omega) (by rw [List.length_map,List.length_take]; omega),oB]
   have m:(d.aq.l.take i).map bT++[bT d.aq.l[i]]=(d.aq.l.take (i+1)).map bT:=by
    rw [List.take_add_one,List.getElem?_eq_getElem hi,List.map_append]; rfl
   rw [m];unfold v8;exact Ki b hw n (i+1) (by omega) (by omega)
  ·rw [dF (show ¬((i:Nat):Int)<((d.aq.l.length:Nat):Int) from by omega),cond_false,List.take_of_length_le (by omega)]
theorem qv {α:Type}{l r:List α}{i:Nat}{x:α}(h:l.drop i=x::r):l.drop (i+1)=r/\l[i]?=some x:=by
 refine⟨by rw [<- List.drop_drop,h]; rfl, ?_⟩;have:=congrArg List.head? h;rw [List.head?_drop] at this;exact this
theorem Ea (a:Int):rL a a=some 0:=by
 rw [RA]; unfold yI;rw [dF (by omega),cond_false]; rfl
theorem Kj:∀x:Bs,Op.bytesLess x x=false
 | []=>by simp [Op.bytesLess]
 | a::x=>by rw [Op.bytesLess,Kj x]; simp
theorem Kk (a:Bs):uw a a=some 0:=by
 rw [RB]; unfold yJ;rw [Kj,cond_false,Bool.false_or,beq_iff_eq.mpr rfl]; rfl
theorem UA (v:af):(cR v).aD.l=v.aD.l.map cR:=by rw [mj]; rfl
theorem UB (v:af) (i:Nat):∃s,oC (cR v) (i:Int)=some s/\oC v (i:Int)=some s:=by
 rw [show oC (cR v) (i:Int)=oC v (i:Int) from by rw [De,De]; unfold wg; rw [mj]; rfl];rw [De]; unfold wg dh;by_cases h:i<v.aN.l.length
 ·rw [dT (by omega),cond_true,if_pos (by omega),show (i:Int).toNat=i from by omega,List.getElem?_eq_getElem h];exact⟨_,rfl,rfl⟩
 ·rw [dF (by omega),cond_false];exact⟨_,rfl,rfl⟩
theorem Kl {v:af}{k:af->af->Option Int}(hk:∀x∈v.aD.l,k (cR x) x=some 0) (hl:v.aD.l.length<=1048576):∀n j:Nat,j<=v.aD.l.length->v.aD.l.length<j+n->qc (cR v) v k n 0 (j:Int)=some 0
 | 0,j,_,h=>by omega
 | n+1,j,h1,g=>by
  rw [qc,show decide ((0:Int)=0)=true from rfl,cond_true,UA,List.length_map,Bool.or_self];by_cases h:j<v.aD.l.length
  ·obtain⟨s,b,f⟩:=UB v j;rw [dF (by omega),cond_false,b,oB,f,oB,Kk,oB,show decide ((0:Int)=0)=true from rfl,cond_true];unfold dh;rw [if_pos (by omega),if_pos (by omega),show (j:Int).toNat=j from by omega,List.getElem?_map,List.getElem?_eq_getElem h,Option.map_some,oB,oB,hk _ (List.getElem_mem h),oB]
   unfold wi;rw [fP (by omega),oB];exact Kl hk hl n (j+1) (by omega) (by omega)
  ·rw [dT (by omega),cond_true,Ea]; rfl
theorem Km:∀(n:Nat) (v:af),v.sz<n->v.sz<=1048576->kE n (cR v) v=some 0
 | 0,_,h,_=>by omega
 | n+1,v,h,j=>by
  have k:=v.bq;have hlen:v.aD.l.length<=1048576:=by have:=Sl.ej (f:=af.sz) v.aD (fun x=>x.pos); omega
  have b:(cR v).an=v.an:=by rw [mj]; rfl
  have g:(cR v).bl=v.bl:=by rw [mj]; rfl
  have i:(cR v).bg=v.bg:=by rw [mj]; rfl
  rw [kE,b,g,Ea,oB,show decide ((0:Int)=0)=true from rfl,cond_true,Ea,oB];unfold wk;rw [show decide ((0:Int)=0)=true from rfl,cond_true,i,Kk,oB];unfold wj;exact Kl (fun x hx=>Km n x (by have:=af.mc hx; omega) (by have:=af.mc hx; omega)) hlen F0 0 (by omega) (by rw [fK]; omega)
theorem Ko {v:af}(b:v.sz<=1048576):rM (cR v) v=some true:=by
 unfold rM Di;rw [Km F0 v (by rw [fK]; omega) b]; rfl
theorem Kp {x:aC}(hx:∀a∈x.aH.l,a.sz<=1048576){g:Sl aC}{j:Nat}(f:g.l[j]?=some x):∀(l:List bQ) (i:Nat),x.aH.l.drop i=l->rN g j (fA x) (l.map kO) i=some (Sum.inl ())
 | [],_,_=>rfl
 | a::l,i,h=>by
  obtain⟨h1,b⟩:=qv h;have hm:=hx a (List.mem_of_getElem? b);have m:=a.bq;have e:(fA x).aH.l[i]?=some (kO a):=by show (x.aH.l.map kO)[i]?=_; rw [List.getElem?_map,b]; rfl
  rw [List.map_cons,rN];simp only [Ab.on];have k:((kO a).aa==a.aa)=true:=beq_iff_eq.2 rfl;rw [f,oB,b,oB];simp only [k,Bool.not_true,Bool.not_false,aR,if_true,cond_true,e,f,b,oB];rw [show (kO a).gh=cR a.gh from rfl,Ko (by omega),oB];exact Kp hx f l (i+1) h1
theorem Kq {s:Sl aC}(g:∀x∈s.l,x.sz<=1048576):∀(l:List aC) (j:Nat),s.l.drop j=l->rO s (l.map fA) j=some (Sum.inl ())
 | [],_,_=>rfl
 | x::l,j,h=>by
  obtain⟨h1,b⟩:=qv h;have hm:=g x (List.mem_of_getElem? b);have m:=x.bq;rw [List.map_cons,rO];simp only [Ab.on];have i:((fA x).aa==x.aa)=true:=beq_iff_eq.2 rfl;have el:((fA x).aH.l.length:Int)=(x.aH.l.length:Int):=by show ((x.aH.l.map kO).length:Int)=_; rw [List.length_map]
  rw [b,oB];simp only [i,Bool.not_true,Bool.not_false,aR,if_true,cond_true,b,oB,el,decide_true,Bool.or_self,cond_false];rw [show (fA x).aH.l=x.aH.l.map kO from rfl,Kp (fun a k=>by have:=Sl.cW (f:=bQ.sz) k; omega) b x.aH.l 0 rfl,oB];exact Kq g l (j+1) h1
theorem zk {s:Sl aC}(h:Sl.sz aC.sz s<=1048576):qd (bD (s.l.map fA)) s=some true:=by
 unfold qd;rw [show (bD (s.l.map fA)).l=s.l.map fA from rfl,List.length_map,dT rfl,Bool.not_true,cond_false,Kq (fun x hx=>by have:=Sl.cW (f:=aC.sz) hx; omega) s.l 0 rfl]; rfl
theorem Kr (a:Sl Int):∀(l:List Int) (i:Nat),a.l.drop i=l->mz a l i=some (Sum.inl ())
 | [],_,_=>rfl
 | x::l,i,h=>by
  obtain⟨h1,b⟩:=qv h;rw [mz];simp only [Ab.on];rw [b,oB,dT rfl];exact Kr a l (i+1) h1
theorem Ks (t:az):mA t t=some true:=by
 unfold mA qU;rw [Kr t.aF t.aF.l 0 rfl,dT rfl,beq_iff_eq.2 rfl]; rfl
theorem Kt {s:Sl Z8}(b:∀x∈s.l,x.sz<=1048576):∀(l:List Z8) (j:Nat),s.l.drop j=l->qe s (l.map b9) j=some (Sum.inl ())
 | [],_,_=>rfl
 | x::l,j,h=>by
  obtain⟨h1,f⟩:=qv h;have hm:=b x (List.mem_of_getElem? f);have k:=x.bq;rw [List.map_cons,qe];simp only [Ab.on];have g:((b9 x).aa==x.aa)=true:=beq_iff_eq.2 rfl;have i:((b9 x).bY==x.bY)=true:=beq_iff_eq.2 rfl;rw [f,oB];simp only [g,i,Bool.not_true,Bool.not_false,aR,if_true,cond_true,Bool.or_self,Bool.or_false];rw [show (b9 x).aA=x.aA from rfl,Ks,oB]
  simp only [Bool.not_true,Bool.not_false,if_true,Bool.or_self,Bool.or_false];rw [show (b9 x).cB=cR x.cB from rfl,Ko (by omega),oB];simp only [Bool.not_true,Bool.not_false,if_true,Bool.or_self,Bool.or_false];rw [show (b9 x).bp=bD (x.bp.l.map fA) from rfl,zk (by omega),oB];exact Kt b l (j+1) h1
theorem Ku {s:Sl Z8}(h:Sl.sz Z8.sz s<=1048576):oF (bD (s.l.map b9)) s=some true:=by
 unfold oF;rw [show (bD (s.l.map b9)).l=s.l.map b9 from rfl,List.length_map,dT rfl,Bool.not_true,cond_false,Kt (fun x hx=>by have:=Sl.cW (f:=Z8.sz) hx; omega) s.l 0 rfl]; rfl
theorem Kv (a:Sl Bs):∀(l:List Bs) (i:Nat),a.l.drop i=l->qb a l i=some (Sum.inl ())
 | [],_,_=>rfl
 | x::l,i,h=>by
  obtain⟨h1,b⟩:=qv h;rw [qb];simp only [Ab.on];rw [b,oB,beq_iff_eq.2 rfl];exact Kv a l (i+1) h1
theorem UC (a:Sl Bs):uv a a=some true:=by
 unfold uv;rw [dT rfl,Bool.not_true,cond_false,Kv a a.l 0 rfl]; rfl
theorem Kw {t:aj}(b:∀x∈t.aB.l,x.sz<=1048576):∀(l:List Z7) (j:Nat),t.aB.l.drop j=l->qf t (l.map dM) j=some (Sum.inl ())
 | [],_,_=>rfl
 | x::l,j,h=>by
  obtain⟨h1,f⟩:=qv h;have hm:=b x (List.mem_of_getElem? f);have i:=x.bq;rw [List.map_cons,qf];simp only [Ab.on];have g:((dM x).aa==x.aa)=true:=beq_iff_eq.2 rfl;rw [f,oB];simp only [g,Bool.not_true,Bool.not_false,aR,if_true,cond_true,Bool.or_self,Bool.or_false];rw [show (dM x).aA=x.aA from rfl,Ks,oB];simp only [Bool.not_true,Bool.not_false,if_true,Bool.or_self,Bool.or_false]
  rw [show (dM x).bp=bD (x.bp.l.map fA) from rfl,zk (by omega),oB];simp only [Bool.not_true,Bool.not_false,if_true,Bool.or_self,Bool.or_false];rw [show (dM x).aH=bD (x.aH.l.map b9) from rfl,Ku (by omega),oB];exact Kw b l (j+1) h1
theorem Kx {t:aj}(f:∀x∈t.aG.l,x.sz<=1048576):∀(l:List Z9) (j:Nat),t.aG.l.drop j=l->oG t (l.map fB) j=some (Sum.inl ())
 | [],_,_=>rfl
 | x::l,j,h=>by
  obtain⟨h1,b⟩:=qv h;have hm:=f x (List.mem_of_getElem? b);have i:=x.bq;rw [List.map_cons,oG];simp only [Ab.on];have g:((fB x).aa==x.aa)=true:=beq_iff_eq.2 rfl;rw [b,oB];simp only [g,Bool.not_true,Bool.not_false,aR,if_true,cond_true,Bool.or_self,Bool.or_false,b,oB];rw [show (fB x).bp=bD (x.bp.l.map fA) from rfl,zk (by omega),oB]
  exact Kx f l (j+1) h1
theorem UD {t:aj}(i:t.sz<=1048576):uA (bT t) t=some true:=by
 have j:=t.bq;unfold uA;have b:decide ((bT t).an=t.an)=true:=dT rfl;have g:((bT t).aa==t.aa)=true:=beq_iff_eq.2 rfl;simp only [b,g,Bool.not_true,Bool.not_false,aR,if_true,Bool.or_self,Bool.or_false];rw [show (bT t).aX=t.aX from rfl,UC,oB];simp only [Bool.not_true,Bool.not_false,if_true,Bool.or_self,Bool.or_false];rw [show (bT t).bp=bD (t.bp.l.map fA) from rfl,zk (by omega),oB,
  show (bT t).aB.l=t.aB.l.map dM from rfl,show (bT t).aG.l=t.aG.l.map fB from rfl,List.length_map,List.length_map,dT rfl,dT rfl]
 simp only [Bool.not_true,Bool.or_self,cond_false];rw [Kw (fun x hx=>by have:=Sl.cW (f:=Z7.sz) hx; omega) t.aB.l 0 rfl,oB];simp only [Ab.on];rw [Kx (fun x hx=>by have:=Sl.cW (f:=Z9.sz) hx; omega) t.aG.l 0 rfl,oB];simp only [show (bT t).aL=bD (t.aL.l.map b9) from rfl];rw [Ku (by omega)]; rfl
theorem Ky {p:ak}(b:∀x∈p.aq.l,x.sz<=1048576):∀(l:List aj) (j:Nat),p.aq.l.drop j=l->qg p (l.map bT) j=some (Sum.inl ())
 | [],_,_=>rfl
 | x::l,j,h=>by
  obtain⟨h1,f⟩:=qv h;rw [List.map_cons,qg];simp only [Ab.on];rw [f,oB,UD (b x (List.mem_of_getElem? f)),oB,Bool.not_true,cond_false];exact Ky b l (j+1) h1
theorem UE {l:List aj}{p:ak}(b:p.aq.l=l) (f:∀x∈l,x.sz<=1048576):rP (ak.mk (bD (l.map bT))) p=some true:=by
 subst b;unfold rP;rw [show (ak.mk (bD (p.aq.l.map bT))).aq.l=p.aq.l.map bT from rfl,List.length_map,dT rfl,Bool.not_true,cond_false,Ky f p.aq.l 0 rfl]; rfl
theorem UF {d:ak}{n:Bs}(h:Rd d n):gm (cn d) n=gm d n:=by
 rw [<- Dv,<- Dv];unfold gR nH;simp only [Ab.on,i_,jM h];rfl
theorem Kz {d:ak}{n:Bs}(h:Rd d n):gR (cn d) n=gR d n:=by
 unfold gR nH;simp only [Ab.on,i_,jM h];rfl
theorem KB {d:ak}{n:Bs}(h:Rd d n) (a:Bs) (k:Int):iG (cn d) n a k=iG d n a k:=by
 unfold iG;rw [jM h,UF h]; rfl
theorem Eb {d:ak}(a b:Bs):∀(l:List Z8) (s:List Bs),(∀x∈l,Rd d x.aA.aa)->gq (cn d) a b s (l.map b9)=gq d a b s l
 | [],_,_=>rfl
 | x::l,s,h=>by
  rw [List.map_cons,gq,gq,show (b9 x).aa=x.aa from rfl,show (b9 x).aA=x.aA from rfl,KB (h x (.head _)),Eb a b l _ fun y f=>h y (.tail _ f)]
theorem KC {d:ak}(b:Bs):∀(l:List Z7) (s:List Bs),(∀y∈sj l,Rd d y)->iV (cn d) b s (l.map dM)=iV d b s l
 | [],_,_=>rfl
 | x::l,s,h=>by
  have g:sj (x::l)=x.aA.aa::(x.aH.l.map (fun a=>a.aA.aa)++sj l):=by simp [sj]
  rw [g] at h;rw [List.map_cons,iV,iV,show (dM x).aa=x.aa from rfl,show (dM x).aA=x.aA from rfl,show (dM x).aH.l=x.aH.l.map b9 from rfl,KB (h _ (.head _)),
   Eb _ _ x.aH.l _ fun y f=>h _ (.tail _ (List.mem_append.2 (.inl (List.mem_map.2 ⟨y,f,rfl⟩)))),KC b l _ fun y f=>h y (.tail _ (List.mem_append.2 (.inr f)))]
theorem KD (b:Bs):∀(l:List Z9) (s:List Bs),iW b s (l.map fB)=iW b s l
 | [],_=>rfl
 | x::l,s=>by rw [List.map_cons,iW,iW,show (fB x).aa=x.aa from rfl,KD b l]
theorem UG {d:ak}{t:aj}(h:aT d.aq.l t.aa=(t,true)):sc d t.aa=wC d t t.aa:=by unfold sc; rw [h]
theorem UH {d:ak}{t:aj}(h:aT d.aq.l t.aa=(t,true)):qu d t.aa=true:=by unfold qu; rw [h]
structure Kd (d:ak) (t:aj):Prop where
 f:∀y∈sj t.aB.l,Rd d y
 i:∀x∈t.aL.l,Rd d x.aA.aa
 m:t.an=3->∀x∈t.aG.l,Rd d x.aa
 p:∀y∈t.aX.l,Rd d y
 o:t.an=2->∀x∈d.aq.l,x.aX.l.contains t.aa=true->Rd d x.aa
theorem zl {d:ak}{t:aj}(h:aT d.aq.l t.aa=(t,true)) (hr:Rd d t.aa):Kd d t:=by
 have st:∀y∈wC d t t.aa,Rd d y:=fun y b=>hr.step (UH h) (by rw [UG h]; exact b);unfold wC at st;refine⟨fun y b=>st y (List.mem_append.2 (.inl b)),fun x hx=>st _ (List.mem_append.2 (.inr (List.mem_append.2 (.inl (List.mem_map.2 ⟨x,hx,rfl⟩))))),fun hk x hx=>?_,fun y b=>?_,fun hk x hx hc=>?_⟩
 ·refine st _ (List.mem_append.2 (.inr (List.mem_append.2 (.inr (List.mem_append.2 (.inl ?_))))));rw [if_pos hk]; exact List.mem_map.2 ⟨x,hx,rfl⟩
 ·exact st _ (List.mem_append.2 (.inr (List.mem_append.2 (.inr (List.mem_append.2 (.inr (List.mem_append.2 (.inl b))))))))
 ·refine st _ (List.mem_append.2 (.inr (List.mem_append.2 (.inr (List.mem_append.2 (.inr (List.mem_append.2 (.inr ?_))))))));rw [if_pos hk]; exact List.mem_map.2 ⟨x,List.mem_filter.2 ⟨hx,hc⟩,rfl⟩
theorem UI {d:ak}{t:aj}(h:Kd d t):jG (cn d) (bT t)=jG d t:=by
 unfold jG;rw [show (bT t).an=t.an from rfl,show (bT t).aa=t.aa from rfl,show (bT t).aB.l=t.aB.l.map dM from rfl,show (bT t).aG.l=t.aG.l.map fB from rfl,show (bT t).aL.l=t.aL.l.map b9 from rfl,
  KC _ _ _ h.f,KD,Eb _ _ _ _ h.i]
theorem KE {d:ak}{own:Bs}{x:Z8}(h:Rd d x.aA.aa):gd (cn d) own (b9 x)=gd d own x:=by
 unfold gd;rw [show (b9 x).aA=x.aA from rfl,jM h]; rfl
theorem UJ {d:ak}{n:Bs}(h:Rd d n):gZ (cn d) n=(gZ d n).map b9:=by unfold gZ; rw [jM h]; rfl
theorem UK {d:ak}{n:Bs}(h:Rd d n):∀x∈gZ d n,Rd d x.aA.aa:=fun x hx=>by
 cases b:qu d n
 ·unfold gZ at hx;rw [rV b] at hx;cases hx
 ·refine h.step b ?_;unfold sc wC;exact List.mem_append.2 (.inr (List.mem_append.2 (.inl (List.mem_map.2 ⟨x,hx,rfl⟩))))
theorem UL {d:ak}{own:Bs}{l:List Z8}(hl:∀x∈l,Rd d x.aA.aa){n:Bs}(h:fm (cn d) own (l.map b9) n):fm d own l n/\Rd d n:=by
 induction h with
 | here hx hg =>
  obtain⟨x,b,rfl⟩:=List.mem_map.1 hx;rw [KE (hl x b)] at hg;exact⟨fm.here (x:=x) b hg,hl x b⟩
 | step _ hx hg g =>
  obtain⟨i,f⟩:=g;rw [UJ f] at hx;obtain⟨x,b,rfl⟩:=List.mem_map.1 hx;have hr:=UK f x b;rw [KE hr] at hg;exact⟨fm.step (x:=x) i b hg,hr⟩
theorem UM {d:ak}{t:aj}(h:Kd d t) (hc:iF d t=false):iF (cn d) (bT t)=false:=by
 unfold iF at hc ⊢;rw [decide_eq_false_iff_not] at hc ⊢;exact fun hr=>hc (UL h.i hr).1
theorem wE {b:Bool}{e:Int}{a:Bs}:bU b e a=[]↔b=false:=by unfold bU; cases b<;>simp
theorem UN {d:ak}{t:aj}(hk:Kd d t){s f:List Bs}(j:∀x∈f,x∈s) (h:iX d s t=[]):iX (cn d) f (bT t)=[]:=by
 unfold iX at h ⊢;simp only [List.append_eq_nil_iff,wE] at h ⊢;obtain⟨⟨h1,b⟩,k,m,g⟩:=h;refine⟨⟨h1, ?_⟩, ?_,m, ?_⟩
 ·rw [Bool.or_eq_false_iff] at b ⊢;refine⟨?_,b.2⟩;have i:=b.1;simp only [List.contains_eq_mem,decide_eq_false_iff_not] at i ⊢;exact fun hx=>i (j _ hx)
 ·rw [<- k];unfold qj;rw [show (bT t).an=t.an from rfl,show (bT t).aB.l=t.aB.l.map dM from rfl,show (bT t).aG.l=t.aG.l.map fB from rfl,show (bT t).aL.l=t.aL.l.map b9 from rfl,List.length_map,List.length_map,List.length_map]
 ·rw [show (bT t).an=t.an from rfl];cases hc:iF d t
  ·rw [UM hk hc,Bool.and_false]
  ·rw [hc,Bool.and_true] at g; rw [g,Bool.false_and]
theorem Ec {d:ak}(f:∀t∈d.aq.l,Rd d t.aa->Kd d t):∀(l:List aj) (s b:List Bs),(∀t∈l,t∈d.aq.l)->(∀x∈b,x∈s)->gA d s l=[]->gA (cn d) b ((l.filter fun t=>D_ d t.aa).map bT)=[]
 | [],_,_,_,_,_=>rfl
 | t::r,s,b,hm,g,h=>by
  rw [gA] at h;simp only [List.append_eq_nil_iff] at h;obtain⟨h1,k,j⟩:=h;rw [List.filter_cons]
  split
  ·rename_i hq
   have hk:=f t (hm t (.head _)) (Us.1 hq);rw [List.map_cons,gA,UN hk g h1,UI hk,k];simp only [List.nil_append];refine Ec f r (s++[t.aa]) _ (fun y i=>hm y (.tail _ i)) (fun x hx=>?_) j;rcases List.mem_append.1 hx with hx|hx
   ·exact List.mem_append.2 (.inl (g x hx))
   ·exact List.mem_append.2 (.inr hx)
  ·exact Ec f r (s++[t.aa]) b (fun y i=>hm y (.tail _ i)) (fun x hx=>List.mem_append.2 (.inl (g x hx))) j
theorem KF {d:ak}:∀(l:List aj) (s:List Bs),gA d s l=[]->∀t∈l,t.aa∉s/\aT l t.aa=(t,true)
 | [],_,_,_,h=>(by cases h)
 | a::r,s,h,t,ht=>by
  rw [gA] at h;simp only [List.append_eq_nil_iff] at h;obtain⟨h1,_,f⟩:=h;unfold iX at h1;simp only [List.append_eq_nil_iff,wE] at h1;have g:=(Bool.or_eq_false_iff.1 h1.1.2).1;rcases List.mem_cons.1 ht with rfl|ht
  ·exact⟨by simpa using g,by rw [zh,if_pos rfl]⟩
  ·obtain⟨i,j⟩:=KF r _ f t ht;have b:t.aa∉s/\t.aa≠a.aa:=by simpa using i
   exact⟨b.1,by rw [zh,if_neg (fun e=>b.2 e.symm)]; exact j⟩
theorem UO {d:ak}(h:gB d true=[]):gB (cn d) true=[]/\∀t∈d.aq.l,aT d.aq.l t.aa=(t,true):=by
 unfold gB at h ⊢;simp only [List.append_eq_nil_iff,wE] at h ⊢;obtain⟨h1,f⟩:=h;have b:∀t∈d.aq.l,aT d.aq.l t.aa=(t,true):=fun t ht=>(KF d.aq.l [] h1 t ht).2;refine⟨⟨Ec (fun t ht hr=>zl (b t ht) hr) d.aq.l [] [] (fun _ h=>h) (fun _ h=>h) h1, ?_⟩,b⟩;rw [jM Ut];exact f
theorem UP {d:ak}{a n:Bs}(b:Rd d a) (hn:Rd d n):gK (cn d) a n=gK d a n:=by
 unfold gK;rw [jM b,jM hn];simp only [show ∀t,(bT t).an=t.an from fun _=>rfl,show ∀t,(bT t).aX=t.aX from fun _=>rfl,show ∀t,(bT t).aG.l=t.aG.l.map fB from fun _=>rfl,List.any_map];rfl
theorem KG {d:ak}{n:Bs}(h:Rd d n) (k:Int):dS (cn d) n k=dS d n k:=by
 unfold dS;rw [jM h]; rfl
theorem UQ:b9 Z8.zero=Z8.zero:=by
 unfold b9;rw [mj]; rfl
theorem zm (n:Bs):∀l:List Z8,cQ (l.map b9) n=(b9 (cQ l n).1,(cQ l n).2)
 | []=>by show (Z8.zero,false)=(b9 Z8.zero,false); rw [UQ]
 | a::r=>by
  have b:=zm n r;unfold cQ at b ⊢;rw [List.map_cons,List.find?_cons,List.find?_cons,show (b9 a).aa=a.aa from rfl];cases a.aa==n
  ·exact b
  ·rfl
theorem KH (n:Bs):∀l:List Z7,ea (l.map dM) n=(dM (ea l n).1,(ea l n).2)
 | []=>rfl
 | a::r=>by
  have b:=KH n r;unfold ea at b ⊢;rw [List.map_cons,List.find?_cons,List.find?_cons,show (dM a).aa=a.aa from rfl];cases a.aa==n
  ·exact b
  ·rfl
theorem KI (p:Bs) (y:Z7):∀l:List Z8,jI p (dM y) (l.map b9)=jI p y l
 | []=>rfl
 | a::r=>by
  have b:=KI p y r;unfold jI at b ⊢;rw [List.map_cons,List.flatMap_cons,List.flatMap_cons,b,show (dM y).aH.l=y.aH.l.map b9 from rfl,show (b9 a).aa=a.aa from rfl,zm];rfl
theorem KJ (p:Bs) (x:Z7):∀l:List Z8,mh p (dM x) (l.map b9)=mh p x l
 | []=>rfl
 | a::r=>by
  have b:=KJ p x r;unfold mh at b ⊢;rw [List.map_cons,List.flatMap_cons,List.flatMap_cons,b,show (dM x).aH.l=x.aH.l.map b9 from rfl,show (b9 a).aa=a.aa from rfl,zm];rfl
theorem KK {l:List Z7}{f:Z7}(h:f∈l):f.aA.aa∈sj l:=List.mem_flatMap.2 ⟨f,h,.head _⟩
theorem UR {l:List Z7}{n:Bs}(h:(ea l n).2=true):(ea l n).1∈l:=by
 unfold ea at h ⊢;cases e:l.find? (fun t=>t.aa==n) with
 | none=>rw [e] at h; cases h
 | some t=>exact List.mem_of_find?_eq_some e
theorem US {d:ak}(hl:d.aq.l.length<=1048576){t:aj}{x:Z7}(ht:∀f∈t.aB.l,Rd d f.aA.aa/\dJ f.aA.aF) (hx:Rd d x.aA.aa/\dJ x.aA.aF):kK (cn d) (bT t) (dM x)=kK d t x:=by
 unfold kK;rw [show (bT t).aB.l=t.aB.l.map dM from rfl,show (dM x).aa=x.aa from rfl,KH];simp only [show (bT t).aa=t.aa from rfl,show ∀f,(dM f).aA=f.aA from fun _=>rfl,show (dM x).aH.l=x.aH.l.map b9 from rfl,show ∀f,(dM f).aH.l=f.aH.l.map b9 from fun _=>rfl,KI,KJ];cases b:(ea t.aB.l x.aa).2
 ·simp only [Bool.not_false,cond_true]
 ·obtain⟨h1,g⟩:=ht _ (UR b);have i:(cn d).aq.l.length<=1048576:=by
   show ((ng d).map bT).length<=_;rw [List.length_map];exact Nat.le_trans (List.length_filter_le _ _) hl
  rw [Ur hl i g hx.2 (UP hx.1 h1)]
theorem KL {d:ak}(hl:d.aq.l.length<=1048576){t:aj}(ht:∀f∈t.aB.l,Rd d f.aA.aa/\dJ f.aA.aF):∀l:List Z7,(∀f∈l,Rd d f.aA.aa/\dJ f.aA.aF)->kL (cn d) (bT t) (l.map dM)=kL d t l
 | [],_=>rfl
 | a::r,h=>by
  have b:=KL hl ht r fun f g=>h f (.tail _ g);unfold kL at b ⊢;rw [List.map_cons,List.flatMap_cons,List.flatMap_cons,b,US hl ht (h a (.head _))]
structure Gd (d:ak):Prop where
 l:d.aq.l.length<=1048576
 f:∀t∈d.aq.l,aT d.aq.l t.aa=(t,true)
 s:∀t∈d.aq.l,∀f∈t.aB.l,dJ f.aA.aF
theorem UT {d:ak}(g:Gd d){n:Bs}(h:Rd d n):∀f∈(aT d.aq.l n).1.aB.l,Rd d f.aA.aa/\dJ f.aA.aF:=fun f b=>by
 cases i:qu d n
 ·rw [rV i] at b; cases b
 ·obtain⟨h1,j⟩:=J9 i;exact⟨(zl (g.f _ h1) (by rw [j]; exact h)).f _ (KK b),g.s _ h1 f b⟩
theorem KM {d:ak}(g:Gd d){t:aj}(ht:∀f∈t.aB.l,Rd d f.aA.aa/\dJ f.aA.aF):∀(l s:List Bs),(∀n∈l,Rd d n)->iH (cn d) (bT t) s l=iH d t s l
 | [],_,_=>rfl
 | n::r,s,h=>by
  have hn:=h n (.head _);rw [iH,iH,KM g ht r _ fun m hm=>h m (.tail _ hm)];unfold e8;rw [KG hn,jM hn,show (bT t).aa=t.aa from rfl];simp only [show ∀t,(bT t).aB.l=t.aB.l.map dM from fun _=>rfl];rw [KL g.l ht _ (UT g hn)]
theorem KN {d:ak}{t:aj}:∀(l:List Z9) (s:List Bs),(∀m∈l,Rd d m.aa)->jb (cn d) (bT t) s (l.map fB)=jb d t s l
 | [],_,_=>rfl
 | m::r,s,h=>by
  rw [List.map_cons,jb,jb,KN r _ fun m hm=>h m (.tail _ hm)];unfold e8;rw [show (fB m).aa=m.aa from rfl,KG (h m (.head _)),show (bT t).aa=t.aa from rfl]
theorem UU {d:ak}(g:Gd d){t:aj}(h:t∈d.aq.l) (hr:Rd d t.aa):kM (cn d) (bT t)=kM d t:=by
 have hk:=zl (g.f t h) hr;unfold kM;rw [show (bT t).an=t.an from rfl,show (bT t).aX=t.aX from rfl,show (bT t).aG.l=t.aG.l.map fB from rfl,
  KM g (fun f b=>⟨hk.f _ (KK b),g.s t h f b⟩) _ _ hk.p]
 by_cases i:t.an=3
 ·rw [KN _ _ (hk.m i)]
 ·rw [dF i]; rfl
theorem UW {d:ak}(g:Gd d) (h:gL d=[]):gL (cn d)=[]:=by
 unfold gL at h ⊢;rw [List.flatMap_eq_nil_iff] at h ⊢;intro x hx;obtain⟨t,ht,rfl⟩:=List.mem_map.1 (show x∈(ng d).map bT from hx);obtain⟨h1,b⟩:=zi.1 ht;rw [UU g h1 b];exact h t h1
noncomputable def nz:af->af:=@af.rec (fun _=>af) (fun _=>List af) (fun k i t _ _ y b=>af.mk k i t b.isEmpty b (bD y.l)) [] (fun _ _ b f=>b::f)
theorem Ed (k i:Int) (t:Bs) (nl:Bool) (l:List af) (y:Sl Bs):nz (af.mk k i t nl l y)=af.mk k i t l.isEmpty (l.map nz) (bD y.l):=by
 have key:∀l:List af,(@af.rec_1 (fun _=>af) (fun _=>List af) (fun k i t _ _ y b=>af.mk k i t b.isEmpty b (bD y.l)) [] (fun _ _ b f=>b::f) l:List af)=l.map nz:=by
  intro l;induction l with
  | nil=>rfl
  | cons a r b=>exact congrArg (nz a::·) b
 show af.mk k i t (List.isEmpty (@af.rec_1 (fun _=>af) (fun _=>List af) (fun k i t _ _ y b=>af.mk k i t b.isEmpty b (bD y.l)) [] (fun _ _ b f=>b::f) l)) (@af.rec_1 (fun _=>af) (fun _=>List af) (fun k i t _ _ y b=>af.mk k i t b.isEmpty b (bD y.l)) [] (fun _ _ b f=>b::f) l) (bD y.l)=_;rw [key];cases l<;>rfl
theorem kP (v:af):nz v=af.mk v.an v.bl v.bg v.aD.l.isEmpty (v.aD.l.map nz) (bD v.aN.l):=by cases v; exact Ed ..
structure Nz (v w:af):Prop where
 e:nz v=nz w
theorem Nz.kind {v w:af}(h:Nz v w):v.an=w.an:=by have:=h.e; rw [kP,kP w] at this; injection this
theorem Nz.int {v w:af}(h:Nz v w):v.bl=w.bl:=by have:=h.e; rw [kP,kP w] at this; injection this
theorem Nz.text {v w:af}(h:Nz v w):v.bg=w.bg:=by have:=h.e; rw [kP,kP w] at this; injection this
theorem Nz.items {v w:af}(h:Nz v w):v.aD.l.map nz=w.aD.l.map nz:=by have:=h.e; rw [kP,kP w] at this; injection this
theorem Nz.keys {v w:af}(h:Nz v w):v.aN.l=w.aN.l:=by
 have:=h.e; rw [kP,kP w] at this
 injection this with _ _ _ _ _ b
 have f:(bD v.aN.l).l=(bD w.aN.l).l:=congrArg (fun s:Sl Bs=>s.l) b;exact f
theorem KO:∀(n:Nat) (v:af),v.sz<=n->nz (cR v)=nz v
 | 0,v,h=>by have:=v.pos; omega
 | n+1,v,h=>by
  rw [mj,Ed,kP v,List.map_map];have e:v.aD.l.map (nz ∘ cR)=v.aD.l.map nz:=List.map_congr_left fun x hx=>KO n x (by have:=af.mc hx; omega);rw [e];cases v.aD.l<;>rfl
theorem Nz.cp (v:af):Nz v (cR v):=⟨(KO _ v (Nat.le_refl _)).symm⟩
theorem KP {α:Type}{z:Nat}{s r u:Sl α}(h:aW z s r=some u):u.l=s.l++r.l:=by
 unfold aW at h; split at h
 ·cases h; rfl
 ·cases h
theorem KQ {rec:af->Option af}:∀(l:List af) (s t:Sl af),(∀x∈l,∀r,rec x=some r->nz r=nz x)->lE rec l s=some t->t.l.map nz=s.l.map nz++l.map nz
 | [],s,t,_,h=>by rw [lE] at h; cases h; simp
 | x::l,s,t,hr,h=>by
  rw [lE] at h;simp only [Ab.on] at h;obtain⟨x',b,h⟩:=bx h;obtain⟨u,f,h⟩:=bx h;have:=KQ l u t (fun y g=>hr y (.tail _ g)) h;rw [this,KP f];simp [hr x (.head _) _ b]
theorem Ee:∀(n:Nat) (v r:af),iw n v=some r->nz r=nz v
 | 0,v,r,h=>by rw [iw] at h; cases h
 | 1,v,r,h=>by rw [iw,qY] at h; cases h
 | n+2,v,r,h=>by
  rw [iw,qY] at h;simp only [Ab.on] at h;obtain⟨a,f,h⟩:=bx h;obtain⟨b,i,h⟩:=bx h;obtain⟨m,j,f⟩:=bx f;cases f;cases h;have h1:=KQ v.aD.l _ _ (fun x _ r hr=>Ee n x r hr) j;have g:=KP i;simp only [Sl.nil,List.map_nil,List.nil_append] at h1 g;rw [Ed,kP v,h1,g];have k:a.l.isEmpty=v.aD.l.isEmpty:=by
   have:=congrArg List.length h1;simp only [List.length_map] at this;rw [Bool.eq_iff_iff,List.isEmpty_iff_length_eq_zero,List.isEmpty_iff_length_eq_zero,this]
  rw [k]
def gw:af:=af.mk (0:Int) (0:Int) ([]:Bs) true ([]) (Sl.nil:Sl Bs)
theorem KR {v w:af}(h:Nz v w) (s:Bs):∀(l:List Bs) (i:Nat) (o o':Unit ⊕ (af×Bool)),iy v s l i=some o->iy w s l i=some o'->(match o with|.inl _=>(gw,false)|.inr e=>e).2=(match o' with|.inl _=>(gw,false)|.inr e=>e).2/\Nz (match o with|.inl _=>(gw,false)|.inr e=>e).1 (match o' with|.inl _=>(gw,false)|.inr e=>e).1
 | [],i,o,o',h1,f=>by
  rw [iy] at h1 f;cases h1; cases f;exact⟨rfl,⟨rfl⟩⟩
 | x::l,i,o,o',h1,f=>by
  rw [iy] at h1 f;simp only [Ab.on] at h1 f;have hlen:v.aD.l.length=w.aD.l.length:=by have:=congrArg List.length h.items; simpa using this
  cases hx:x==s
  ·rw [hx,cond_false] at h1 f;exact KR h s l (i+1) o o' h1 f
  ·rw [hx,cond_true] at h1 f;rw [<- hlen] at f;cases g:decide (((v.aD.l.length:Nat):Int)<=((i:Nat):Int))
   ·rw [g,cond_false] at h1 f;obtain⟨a,j,h1⟩:=bx h1;obtain⟨k,a2,h1⟩:=bx h1;obtain⟨b,m,f⟩:=bx f;obtain⟨b',p,f⟩:=bx f;cases h1; cases f;refine⟨rfl,⟨?_⟩⟩;show nz k=nz b';rw [Ee _ _ _ a2,Ee _ _ _ p];have e:=congrArg (fun l=>l[i]?) h.items;simp only [List.getElem?_map,j,m,Option.map_some] at e;exact oJ e
   ·rw [g,cond_true] at h1 f;cases h1; cases f;exact⟨rfl,⟨rfl⟩⟩
structure Rw (d:ak) (c c':Z4):Prop where
 d1:c.Fd=d
 d2:c'.Fd=cn d
 v1:c.ep=gw
 v2:c'.ep=gw
 li:c'.eO=c.eO
 co:c'.gP=c.gP
 er:c'.cH=c.cH
theorem Rw.fail {d:ak}{c c':Z4}(h:Rw d c c') (e:Int):Rw d (eM c e) (eM c' e):=by
 unfold eM;rw [h.er];cases decide (c.cH=0)
 ·exact h
 ·exact⟨h.d1,h.d2,h.v1,h.v2,h.li,h.co,rfl⟩
theorem Rw.count {d:ak}{c c':Z4}(h:Rw d c c') (n:Int):Rw d (Z4.mk c.Fd c.ep c.eO n c.cH) (Z4.mk c'.Fd c'.ep c'.eO n c'.cH):=⟨h.d1,h.d2,h.v1,h.v2,h.li,rfl,h.er⟩
theorem Rw.node {d:ak}{c c' z k:Z4}(h:Rw d c c'){L:Int}(e:iO c L=some z) (i:iO c' L=some k):Rw d z k:=by
 unfold iO at e i;simp only [Ab.on] at e i;have key:∀a b:Z4,Rw d a b->((cG a.gP (1:Int)).bind fun f=>bif (decide ((4096:Int)<f)) then some (eM (Z4.mk a.Fd a.ep a.eO f a.cH) (4:Int)) else(some (Z4.mk a.Fd a.ep a.eO f a.cH)))=some z ->
   ((cG b.gP (1:Int)).bind fun f=>bif (decide ((4096:Int)<f)) then some (eM (Z4.mk b.Fd b.ep b.eO f b.cH) (4:Int)) else(some (Z4.mk b.Fd b.ep b.eO f b.cH)))=some k->Rw d z k:=by
  intro a b l h1 g;rw [l.co] at g;obtain⟨x,o,h1⟩:=bx h1;obtain⟨x',m,g⟩:=bx g;rw [o] at m;obtain rfl:=oJ m;cases j:decide ((4096:Int)<x)
  ·rw [j,cond_false] at h1 g; cases h1; cases g; exact l.count x
  ·rw [j,cond_true] at h1 g; cases h1; cases g; exact(l.count x).fail 4
 cases j:decide ((24:Int)<L)
 ·rw [j] at e i; exact key _ _ h e i
 ·rw [j] at e i; exact key _ _ (h.fail 5) e i
theorem Rw.scalar {d:ak}{c c' z f:Z4}{v w x y:af}(h:Rw d c c') (hv:Nz v w){n:Bs}(e:iz c n v=some (x,z)) (b:iz c' n w=some (y,f)):Rw d z f:=by
 unfold iz at e b;rw [<- hv.kind,<- hv.int] at b;simp only [Ab.on] at e b
 revert e b
 generalize (((((n==([73,110,116]:Bs)))&&(decide (v.an=(2:Int))))&&(decide ((-2147483648:Int)<=v.bl)))&&(decide (v.bl<(2147483648:Int))))=g;cases g
 ·simp only [cond_false];generalize (bif (((n==([83,116,114,105,110,103]:Bs)))&&(decide (v.an=(3:Int)))) then((((n==([83,116,114,105,110,103]:Bs)))&&(decide (v.an=(3:Int))))) else(bif (((n==([66,111,111,108,101,97,110]:Bs)))&&(decide (v.an=(1:Int)))) then((((n==([66,111,111,108,101,97,110]:Bs)))&&(decide (v.an=(1:Int))))) else((((n==([73,68]:Bs)))&&(decide (v.an=(3:Int)))))))=i;cases i
  ·simp only [cond_false];generalize (((n==([73,68]:Bs)))&&(decide (v.an=(2:Int))))=j;cases j
   ·simp only [cond_false];intro e b; cases e; cases b; exact h.fail 23
   ·simp only [cond_true];intro e b;obtain⟨_,_,e⟩:=bx e;obtain⟨_,_,b⟩:=bx b;cases e; cases b; exact h
  ·simp only [cond_true];intro e b; cases e; cases b; exact h
 ·simp only [cond_true];intro e b; cases e; cases b; exact h
theorem KS {d:ak}{c c':Z4}{v w:af}(hv:Nz v w):∀l:List Z9,(iP c v l=Sum.inl ()/\iP c' w (l.map fB)=Sum.inl ())\/∃x y,iP c v l=Sum.inr (x,c)/\iP c' w (l.map fB)=Sum.inr (y,c')
 | []=>.inl ⟨rfl,rfl⟩
 | m::l=>by
  rw [List.map_cons,iP,iP];simp only [Ab.on];rw [show (fB m).aa=m.aa from rfl,<- hv.text];cases m.aa==v.bg
  ·simp only [cond_false]; exact KS (d:=d) hv l
  ·exact .inr ⟨_,_,rfl,rfl⟩
theorem Rw.UX {d:ak}{c c':Z4}{v w:af}(h:Rw d c c') (hv:Nz v w) (t:aj):Rw d (iA c t v).2 (iA c' (bT t) w).2:=by
 unfold iA;simp only [Ab.on];rw [<- hv.kind,h.li,show (bT t).aG.l=t.aG.l.map fB from rfl];cases (decide (v.an=(4:Int)))||((decide (v.an=(3:Int)))&&(!c.eO))
 ·exact h.fail 23
 ·rcases KS (d:=d) (c:=c) (c':=c') hv t.aG.l with ⟨b,f⟩|⟨x,y,b,f⟩
  ·rw [b,f]; exact h.fail 23
  ·rw [b,f]; exact h
theorem Rw.keys {d:ak}(t:aj):∀(l:List Bs){c c':Z4},Rw d c c'->Rw d (ic t l c) (ic (bT t) l c')
 | [],_,_,h=>h
 | k::l,c,c',h=>by
  rw [ic,ic];simp only [Ab.on];have e:(gQ (bT t).aL k).2=(gQ t.aL k).2:=by
   rw [yZ,yZ,show (bT t).aL.l=t.aL.l.map b9 from rfl,zm]
  rw [e];refine Rw.keys t l ?_;cases (gQ t.aL k).2
  ·exact h.fail 22
  ·exact h
theorem UY {v w x y:af}{b b':Bool}(h:Nz v w){s:Bs}(e:jy v s=some (x,b)) (f:jy w s=some (y,b')):b=b'/\Nz x y:=by
 unfold jy at e f;rw [<- h.kind] at f;cases hk:decide (v.an=(6:Int))
 ·rw [hk] at e f; cases e; cases f; exact⟨rfl,⟨rfl⟩⟩
 ·rw [hk,Bool.not_true,cond_false] at e f;obtain⟨o,i,e⟩:=bx e;obtain⟨o',g,f⟩:=bx f;rw [<- h.keys] at g;have:=KR h s _ _ _ _ i g;cases o<;>cases o'<;>(simp only [Ab.on] at e f; cases e; cases f; exact this)
theorem KT {α:Type}(f:α->α) (l:List α) (k:Int):dh (l.map f) k=(dh l k).map f:=by
 unfold dh
 split
 ·rw [List.getElem?_map]
 ·rfl
theorem KU (s f:Sl Z8) (g:f.l=s.l.map b9) (i:Int):∀(n:Nat) (k:Int),lF f i n k=lF s i n k
 | 0,_=>rfl
 | n+1,k=>by
  rw [lF,lF,g,KT,KT];cases decide (k<i)
  ·rfl
  ·simp only [cond_true];cases dh s.l k with
   | none=>rfl
   | some a =>
    simp only [Option.map_some,oB];cases dh s.l i with
    | none=>rfl
    | some b =>
     simp only [Option.map_some,oB,show (b9 a).aa=a.aa from rfl,show (b9 b).aa=b.aa from rfl,KU s f g i n]
theorem UZ (t:aj) (i:Int):q6 (bT t).aL i=q6 t.aL i:=KU t.aL _ rfl i F0 0
theorem Ef {c:Z4}(h:c.ep=gw) (v:af):mD c v=some (!((!c.eO)||(!decide (v.an=(7:Int))))):=by
 unfold mD;rw [h];cases ((!c.eO)||(!decide (v.an=(7:Int))))<;>rfl
def jd (d:ak) (k:Z4->az->af->Int->Option (af×Z4)):Prop:=∀{c c':Z4}{t:az}{v w x y:af}{L:Int}{z b:Z4},Rw d c c'->Nz v w->Rd d t.aa->t.aF.l.length<=1048576->k c t v L=some (x,z)->k c' t w L=some (y,b)->Rw d z b
theorem KV {d:ak}{k:Z4->az->af->Int->Option (af×Z4)}(hk:jd d k){t:az}(ht:Rd d t.aa) (hl:t.aF.l.length<=1048576) (L:Int):∀(l l':List af){c c':Z4}{a i b b':af}{z g:Z4},l.map nz=l'.map nz->Rw d c c'->gU t L k l c a=some (z,b)->gU t L k l' c' i=some (g,b')->Rw d z g
 | [],[],c,c',a,i,b,b',z,g,_,h,e,f=>by
  rw [gU] at e f;cases e; cases f; exact h
 | [],_::_,c,c',a,i,b,b',z,g,hm,_,_,_=>by simp at hm
 | _::_,[],c,c',a,i,b,b',z,g,hm,_,_,_=>by simp at hm
 | v::l,w::l',c,c',a,i,b,b',z,g,hm,h,e,f=>by
  rw [List.map_cons,List.map_cons] at hm;obtain⟨h1,m⟩:=List.cons.inj hm;rw [gU] at e f;simp only [Ab.on] at e f;rw [h.er] at f;cases j:decide (c.cH=(0:Int))
  ·rw [j,cond_false] at e f; cases e; cases f; exact h
  ·rw [j,cond_true] at e f;obtain⟨o,f1,e⟩:=bx e;obtain⟨p,f2,f⟩:=bx f;rw [f1] at f2;obtain rfl:=oJ f2;obtain⟨r,g1,e⟩:=bx e;obtain⟨q,g2,f⟩:=bx f;obtain⟨_,_,e⟩:=bx e;obtain⟨_,_,f⟩:=bx f;exact KV (k:=k) hk ht hl L l l' m (hk h ⟨h1⟩ ht hl g1 g2) e f
theorem KW {d:ak}{k k2:Z4->az->af->Int->Option (af×Z4)}(hk:jd d k) (G:jd d k2) (t:aj){v w:af}(hv:Nz v w) (L:Int):∀(l:List Z8) (i:Nat){c c':Z4}{a g b b':af}{z o:Z4},(∀x∈l,Rd d x.aA.aa/\x.aA.aF.l.length<=1048576)->Rw d c c' ->
  fQ t v L k k2 l i c a=some (z,b)->fQ (bT t) w L k k2 (l.map b9) i c' g=some (o,b')->Rw d z o
 | [],i,c,c',a,g,b,b',z,o,_,h,e,f=>by
  rw [List.map_nil] at f;rw [fQ] at e f;cases e; cases f; exact h
 | x::l,i,c,c',a,g,b,b',z,o,hx,h,e,f=>by
  obtain⟨H,I⟩:=hx x (.head _);rw [List.map_cons] at f;rw [fQ] at e f;simp only [Ab.on] at e f;rw [h.er,UZ] at f;cases J:decide (c.cH=(0:Int))
  ·rw [J,cond_false] at e f; cases e; cases f; exact h
  ·rw [J,cond_true] at e f;obtain⟨q,f1,e⟩:=bx e;obtain⟨W,f2,f⟩:=bx f;rw [f1] at f2;obtain rfl:=oJ f2;obtain⟨r,g1,e⟩:=bx e;obtain⟨B,g2,f⟩:=bx f;have step:Rw d r.1 B.1->Rw d z o:=fun hr=>KW (k:=k) (k2:=k2) hk G t hv L l (i+1) (fun y O=>hx y (.tail _ O)) hr e f;refine step ?_;cases q
   ·rw [cond_false] at g1 g2;obtain⟨p,P,g1⟩:=bx g1;obtain⟨K,Q,g2⟩:=bx g2;obtain⟨R,M⟩:=UY hv (b:=p.2) (b':=K.2) (x:=p.1) (y:=K.1) P Q;rw [Ef h.v1] at g1;rw [Ef h.v2,h.li,<- M.kind,<- R] at g2;have rest:∀{g1:Unit},(bif x.bY then((cG L (1:Int)).bind fun C=>(k2 c x.aA x.cB C).bind fun s=>(aW 16 a.aN (⟨false,[x.aa]⟩:Sl Bs)).bind fun m=>(aW 80 a.aD (⟨false,[s.1]⟩:Sl af)).bind fun j=>some (s.2,(af.mk a.an a.bl a.bg j.nl j.l m))) else(bif gj x.aA then((aW 16 a.aN (⟨false,[x.aa]⟩:Sl Bs)).bind fun m=>(aW 80 a.aD (⟨false,[af.zero]⟩:Sl af)).bind fun j=>some (eM c 22,(af.mk a.an a.bl a.bg j.nl j.l m))) else some (c,a)))=some r ->
     (bif x.bY then((cG L (1:Int)).bind fun C=>(k2 c' x.aA (cR x.cB) C).bind fun s=>(aW 16 g.aN (⟨false,[x.aa]⟩:Sl Bs)).bind fun m=>(aW 80 g.aD (⟨false,[s.1]⟩:Sl af)).bind fun j=>some (s.2,(af.mk g.an g.bl g.bg j.nl j.l m))) else(bif gj x.aA then((aW 16 g.aN (⟨false,[x.aa]⟩:Sl Bs)).bind fun m=>(aW 80 g.aD (⟨false,[af.zero]⟩:Sl af)).bind fun j=>some (eM c' 22,(af.mk g.an g.bl g.bg j.nl j.l m))) else some (c',g)))=some B->Rw d r.1 B.1:=by
     intro _ g1 g2;cases hh:x.bY
     ·rw [hh,cond_false] at g1 g2;cases hn:gj x.aA
      ·rw [hn,cond_false] at g1 g2; cases g1; cases g2; exact h
      ·rw [hn,cond_true] at g1 g2;obtain⟨_,_,g1⟩:=bx g1;obtain⟨_,_,g1⟩:=bx g1;obtain⟨_,_,g2⟩:=bx g2;obtain⟨_,_,g2⟩:=bx g2;cases g1; cases g2; exact h.fail 22
     ·rw [hh,cond_true] at g1 g2;obtain⟨S,m1,g1⟩:=bx g1;obtain⟨U,m2,g2⟩:=bx g2;rw [m1] at m2;obtain rfl:=oJ m2;obtain⟨u,E,g1⟩:=bx g1;obtain⟨u',F,g2⟩:=bx g2;obtain⟨_,_,g1⟩:=bx g1;obtain⟨_,_,g1⟩:=bx g1;obtain⟨_,_,g2⟩:=bx g2;obtain⟨_,_,g2⟩:=bx g2;cases g1; cases g2;exact G h (Nz.cp _) H I E F
    cases N:p.2
    ·rw [N] at g1 g2;exact rest (g1:=()) g1 g2
    ·rw [N] at g1 g2;simp only [aR,if_true,oB,Bool.true_and] at g1 g2;cases hm:(!((!c.eO)||(!decide (p.1.an=(7:Int)))))
     ·rw [hm,Bool.not_false,cond_true] at g1 g2;obtain⟨S,m1,g1⟩:=bx g1;obtain⟨U,m2,g2⟩:=bx g2;rw [m1] at m2;obtain rfl:=oJ m2;obtain⟨u,E,g1⟩:=bx g1;obtain⟨u',F,g2⟩:=bx g2;obtain⟨_,_,g1⟩:=bx g1;obtain⟨_,_,g1⟩:=bx g1;obtain⟨_,_,g2⟩:=bx g2;obtain⟨_,_,g2⟩:=bx g2;cases g1; cases g2;exact hk h M H I E F
     ·rw [hm,Bool.not_true,cond_false] at g1 g2;exact rest (g1:=()) g1 g2
   ·rw [cond_true] at g1 g2; cases g1; cases g2; exact h
def Eg (d:ak) (k:Z4->aj->af->Int->Option (af×Z4)):Prop:=∀{c c':Z4}{t:aj}{v w x y:af}{L:Int}{z b:Z4},Rw d c c'->Nz v w->(∀x∈t.aL.l,Rd d x.aA.aa/\x.aA.aF.l.length<=1048576)->k c t v L=some (x,z)->k c' (bT t) w L=some (y,b)->Rw d z b
def sq (d:ak):Prop:=∀n,Rd d n->∀x∈(aT d.aq.l n).1.aL.l,Rd d x.aA.aa/\x.aA.aF.l.length<=1048576
theorem U0 {d:ak}{n:Nat}(hk:jd d (dY n)):jd d (iQ (n+1)):=by
 intro c c' t v w x y L z f h hv ht hl e b;rw [iQ] at e b;simp only [Ab.on] at e b;rw [<- hv.kind] at b;obtain⟨r,f1,e⟩:=bx e;obtain⟨g,f2,b⟩:=bx b;cases e; cases b;refine KV (k:=dY n) hk ht hl L _ _ ?_ h f1 f2;cases decide (v.an=5)
 ·show [nz v]=[nz w]; rw [hv.e]
 ·exact hv.items
theorem U1 {d:ak}{n:Nat}(hk:jd d (dY n)):jd d (fV (n+1)):=by
 intro c c' t v w x y L z f h hv ht hl e b;rw [fV] at e b;rw [h.co,h.er] at b;obtain⟨r,f1,e⟩:=bx e;obtain⟨g,f2,b⟩:=bx b;cases e; cases b;have:=hk (c:=Z4.mk c.Fd gw true c.gP c.cH) (c':=Z4.mk c'.Fd gw true c.gP c.cH) ⟨h.d1,h.d2,rfl,rfl,rfl,rfl,rfl⟩ hv ht hl f1 f2;exact⟨this.d1,this.d2,h.v1,h.v2,h.li,this.co,this.er⟩
theorem U2 {d:ak}{n:Nat}(hk:jd d (dY n)) (g:jd d (fV n)):Eg d (iR (n+1)):=by
 intro c c' t v w x y L z i h hv hi e b;rw [iR] at e b;simp only [Ab.on] at e b;rw [<- hv.kind,<- hv.keys] at b;cases f:decide (v.an=(6:Int))
 ·rw [f] at e b; cases e; cases b; exact h.fail 23
 ·rw [f,Bool.not_true,cond_false] at e b;obtain⟨r,f1,e⟩:=bx e;obtain⟨j,f2,b⟩:=bx b;cases e; cases b;exact KW (k:=dY n) (k2:=fV n) hk g t hv L t.aL.l 0 hi (Rw.keys t v.aN.l h) f1 f2
theorem U3 {d:ak}(C:sq d){n:Nat}(hl:jd d (iQ n)) (E:Eg d (iR n)):jd d (dY (n+1)):=by
 intro c c' t v w x y L z o h hv ht hw e b;have main:∀{v w:af},Nz v w->∀{x y:af}{z o:Z4},
   ((iO c L).bind fun f=>bif (!decide (f.cH=(0:Int))) then(some ((af.mk (0:Int) (0:Int) ([]:Bs) true ([]) (Sl.nil:Sl Bs)),f)) else(bif (decide (v.an=(0:Int))) then some ((af.mk (0:Int) (0:Int) ([]:Bs) true ([]) (Sl.nil:Sl Bs)),bif gj t then eM f (23:Int) else(f)) else((jx t).bind fun i=>bif i.2 then(((iQ n) f i.1 v L).bind fun j=>some (j.1,j.2)) else(bif gJ t.aa then((iz f t.aa v).bind fun k=>some (k.1,k.2)) else(bif (decide ((eA f.Fd t.aa).1.an=(4:Int))) then some ((iA f (eA f.Fd t.aa).1 v).1,(iA f (eA f.Fd t.aa).1 v).2) else(((iR n) f (eA f.Fd t.aa).1 v L).bind fun m=>some (m.1,m.2)))))))=some (x,z) ->
   ((iO c' L).bind fun f=>bif (!decide (f.cH=(0:Int))) then(some ((af.mk (0:Int) (0:Int) ([]:Bs) true ([]) (Sl.nil:Sl Bs)),f)) else(bif (decide (w.an=(0:Int))) then some ((af.mk (0:Int) (0:Int) ([]:Bs) true ([]) (Sl.nil:Sl Bs)),bif gj t then eM f (23:Int) else(f)) else((jx t).bind fun i=>bif i.2 then(((iQ n) f i.1 w L).bind fun j=>some (j.1,j.2)) else(bif gJ t.aa then((iz f t.aa w).bind fun k=>some (k.1,k.2)) else(bif (decide ((eA f.Fd t.aa).1.an=(4:Int))) then some ((iA f (eA f.Fd t.aa).1 w).1,(iA f (eA f.Fd t.aa).1 w).2) else(((iR n) f (eA f.Fd t.aa).1 w L).bind fun m=>some (m.1,m.2)))))))=some (y,o)->Rw d z o:=by
  intro v w hv x y z o e b;obtain⟨a,F,e⟩:=bx e;obtain⟨G,a2,b⟩:=bx b;have g:=h.node F a2;rw [g.er,<- hv.kind] at b;cases h0:decide (a.cH=0)
  ·rw [h0] at e b; cases e; cases b; exact g
  ·rw [h0,Bool.not_true,cond_false] at e b;cases h1:decide (v.an=0)
   ·rw [h1,cond_false,wx hw,oB] at e b;cases q:fR (b8 t.aF).l
    ·rw [q] at e b;simp only [cond_false] at e b;cases s:gJ t.aa
     ·rw [s,cond_false] at e b;rw [g.d1,i_] at e;rw [g.d2,i_,jM ht] at b;simp only [show ∀t,(bT t).an=t.an from fun _=>rfl] at b;cases u:decide ((aT d.aq.l t.aa).1.an=(4:Int))
      ·rw [u,cond_false] at e b;obtain⟨r,f1,e⟩:=bx e;obtain⟨B,f2,b⟩:=bx b;cases e; cases b;exact E g hv (C _ ht) f1 f2
      ·rw [u,cond_true] at e b;cases e; cases b;exact g.UX hv _
     ·rw [s,cond_true] at e b;obtain⟨r,f1,e⟩:=bx e;obtain⟨B,f2,b⟩:=bx b;cases e; cases b;exact g.scalar hv f1 f2
    ·rw [q] at e b;simp only [cond_true] at e b;obtain⟨r,f1,e⟩:=bx e;obtain⟨B,f2,b⟩:=bx b;cases e; cases b;have p:=ww t.aF;exact hl (t:=⟨t.aa,⟨false,(b8 t.aF).l.drop 1⟩⟩) g hv ht (by show ((b8 t.aF).l.drop 1).length<=_; rw [List.length_drop]; omega) f1 f2
   ·rw [h1,cond_true] at e b;cases e; cases b;cases gj t
    ·exact g
    ·exact g.fail 23
 rw [dY] at e b;simp only [Ab.on] at e b;rw [h.d1] at e;rw [h.d2,Kz ht,h.li,<- hv.kind] at b;cases hi:gR d t.aa
 ·rw [hi] at e b; cases e; cases b; exact h.fail 10
 ·rw [hi,Bool.not_true,cond_false] at e b;cases p:c.eO&&decide (v.an=7)
  ·rw [p,cond_false] at e b;exact main hv e (by rw [<- hv.kind]; exact b)
  ·rw [p,cond_true,h.v1] at e;rw [p,cond_true,h.v2] at b;exact main (v:=gw) (w:=gw) ⟨rfl⟩ e b
theorem KX {d:ak}(f:sq d):∀n,jd d (dY n)/\jd d (iQ n)/\Eg d (iR n)/\jd d (fV n)
 | 0=>by
  refine⟨?_, ?_, ?_, ?_⟩
  ·intro c c' t v w x y L z b _ _ _ _ e; rw [dY] at e; cases e
  ·intro c c' t v w x y L z b _ _ _ _ e; rw [iQ] at e; cases e
  ·intro c c' t v w x y L z b _ _ _ e; rw [iR] at e; cases e
  ·intro c c' t v w x y L z b _ _ _ _ e; rw [fV] at e; cases e
 | n+1=>by
  obtain⟨h1,g,i,j⟩:=KX f n;exact⟨U3 f g i,U0 h1,U2 h1 j,U1 h1⟩
theorem U4 {d:ak}(g:Gd d) (k:d.sz<=1048576):sq d:=by
 intro n hn x hx;cases b:qu d n
 ·rw [rV b] at hx; cases hx
 ·obtain⟨h1,j⟩:=J9 b;refine⟨(zl (g.f _ h1) (by rw [j]; exact hn)).i x hx, ?_⟩;have m:=d.bq;have a2:=Sl.cW (f:=aj.sz) h1;have a3:=(aT d.aq.l n).1.bq;have a4:=Sl.cW (f:=Z8.sz) hx;have a5:=x.bq;have o:=x.aA.rQ;omega
theorem U5 {d:ak}(i:sq d){t:az}{v x y:af}{a b:Int}(ht:Rd d t.aa) (hw:t.aF.l.length<=1048576) (e:iB d t v gw=some (x,a)) (f:iB (cn d) t (cR v) gw=some (y,b)):b=a:=by
 have hv:=Nz.cp v;unfold iB at e f;simp only [Ab.on] at e f;rw [Kz ht] at f;rw [Ef rfl] at e f;rw [<- hv.kind] at f;have run:∀{x y:af}{a b:Int},((mF (Z4.mk d gw true (0:Int) (0:Int)) t v).bind fun g=>some (g.1,g.2.1))=some (x,a)->((mF (Z4.mk (cn d) gw true (0:Int) (0:Int)) t (cR v)).bind fun g=>some (g.1,g.2.1))=some (y,b)->b=a:=by
  intro x y a b e f;obtain⟨r,f1,e⟩:=bx e;obtain⟨m,f2,f⟩:=bx f;cases e; cases f;unfold mF vk at f1 f2;obtain⟨u,j,f1⟩:=bx f1;obtain⟨u',k,f2⟩:=bx f2;have h:=(KX i F0).1 (c:=Z4.mk d gw true 0 0) (c':=Z4.mk (cn d) gw true 0 0) ⟨rfl,rfl,rfl,rfl,rfl,rfl,rfl⟩ hv ht hw j k;rw [h.er] at f2;cases h0:decide (u.2.cH=0)
  ·rw [h0] at f1 f2; cases f1; cases f2; rfl
  ·rw [h0] at f1 f2; cases f1; cases f2; rfl
 cases hi:gR d t.aa
 ·rw [hi] at e f;exact run e f
 ·rw [hi] at e f;simp only [aR,if_true,oB,Bool.true_and] at e f;cases hq:(!((!true)||(!decide (v.an=(7:Int)))))
  ·rw [hq,cond_false] at e;rw [hq,cond_false] at f;exact run e f
  ·rw [hq,cond_true] at e;rw [hq,cond_true] at f;cases e; cases f; rfl
theorem U6 {t:aj}(h:iC t=some true):(t.an=1\/t.aX.l=[])/\(t.an=1\/t.an=2\/t.aB.l=[])/\(t.an=5\/t.aL.l=[]):=by
  unfold iC at h;simp only [Ab.on] at h;rcases fh h with ⟨_,b,_,h⟩|⟨_,h⟩<;>rcases fu h with ⟨_,h⟩|⟨_,h⟩;all_goals first
    | (cases h; done)
    | (cases e:lJ t.aX.l with
       | inr y=>rw [e] at h; have:=Dp _ _ e; subst this; cases h
       | inl _ =>
         rw [e] at h;simp only at h;rcases fu h with ⟨k1,h⟩|⟨_,h⟩
         · obtain⟨f,_,h⟩:=bx h
           simp at h k1;exact⟨.inl k1,.inl k1,.inr h.2⟩
         · rcases fu h with ⟨k1,h⟩|⟨_,h⟩
           · rcases fh h with ⟨_,x,_,h⟩|⟨_,h⟩
             · simp at h k1; exact⟨.inr h.1.1.1,.inr (.inl k1),.inr h.2⟩
             · simp at h
           · rcases fu h with ⟨k1,h⟩|⟨_,h⟩
             · rcases fh h with ⟨_,x,_,h⟩|⟨_,h⟩
               · simp at h k1; exact⟨.inr h.1.1.1,.inr (.inr h.1.1.2),.inr h.2⟩
               · simp at h
             · rcases fu h with ⟨k1,h⟩|⟨_,h⟩
               · rcases fh h with ⟨_,x,_,h⟩|⟨_,h⟩
                 · simp at h k1; exact⟨.inr h.1.1.1,.inr (.inr h.1.1.2),.inr h.2⟩
                 · simp at h
               · rcases fu h with ⟨k1,h⟩|⟨_,h⟩
                 · rcases fh h with ⟨_,x,ex,h⟩|⟨_,h⟩
                   · simp at h k1; exact⟨.inr h.1.1.1.1,.inr (.inr h.1.1.1.2),.inl k1⟩
                   · simp at h
                 · cases h)
theorem KY {d:ak}{n a:Bs}{k:Int}(h:iG d n a k=[]):Kn d n:=by
  unfold iG at h;unfold Kn;cases h1:(aT d.aq.l n).2
  · cases b:cC n
    · rw [h1,b] at h; cases h
    · rfl
  · rfl
theorem Eh {d:ak}{a b:Bs}:∀(l:List Z8) (s:List Bs),gq d a b s l=[]->∀x∈l,Kn d x.aA.aa
  | [],_,_,_,h=>(by cases h)
  | y::l,s,h,x,hx=>by
    rw [gq] at h;simp only [List.append_eq_nil_iff] at h;rcases List.mem_cons.1 hx with rfl|hx
    · exact KY h.2.1
    · exact Eh l _ h.2.2 x hx
theorem KZ {d:ak}{n:Bs}:∀(l:List Z7) (s:List Bs),iV d n s l=[]->∀f∈l,Kn d f.aA.aa/\∀x∈f.aH.l,Kn d x.aA.aa
  | [],_,_,_,h=>(by cases h)
  | y::l,s,h,x,hx=>by
    rw [iV] at h;simp only [List.append_eq_nil_iff] at h;rcases List.mem_cons.1 hx with rfl|hx
    · exact⟨KY h.2.1,Eh _ _ h.2.2.1⟩
    · exact KZ l _ h.2.2.2 x hx
theorem K0 {d:ak}:∀(l:List aj) (s:List Bs),gA d s l=[]->∀t∈l,jG d t=[]/\qj t=false/\qk t=false
  | [],_,_,_,h=>(by cases h)
  | y::l,s,h,x,hx=>by
    rw [gA] at h;simp only [List.append_eq_nil_iff] at h;rcases List.mem_cons.1 hx with rfl|hx
    · have h1:=h.1
      unfold iX at h1;simp only [List.append_eq_nil_iff,wE] at h1;exact⟨h.2.1,h1.2.1,h1.2.2.1⟩
    · exact K0 l _ h.2.2 x hx
theorem K_ {d:ak}{s:List Bs}{n:Bs}{k:Int}(h:e8 d s n k=0):Kn d n:=by
  unfold e8 at h;have h0:dS d n k=0:=by
    cases hc:decide (dS d n k=0)&&s.contains n
    · rw [hc] at h; exact h
    · rw [hc] at h; cases h
  unfold dS at h0;unfold Kn;cases h1:(aT d.aq.l n).2
  · cases b:cC n
    · rw [h1,b] at h0; cases h0
    · rfl
  · rfl
theorem La {d:ak}{t:aj}:∀(l s:List Bs),iH d t s l=[]->∀n∈l,Kn d n
  | [],_,_,_,h=>(by cases h)
  | y::l,s,h,x,hx=>by
    rw [iH] at h;simp only [List.append_eq_nil_iff] at h;rcases List.mem_cons.1 hx with rfl|hx
    · have h1:=h.1
      cases hc:decide (e8 d s x 2=0)
      · rw [hc] at h1; cases h1
      · exact K_ (oD hc)
    · exact La l _ h.2 x hx
theorem Lb {d:ak}{t:aj}:∀(l:List Z9) (s:List Bs),jb d t s l=[]->∀m∈l,Kn d m.aa
  | [],_,_,_,h=>(by cases h)
  | y::l,s,h,x,hx=>by
    rw [jb] at h;simp only [List.append_eq_nil_iff,wE] at h;rcases List.mem_cons.1 hx with rfl|hx
    · have h1:=h.1
      exact K_ (by simpa using h1)
    · exact Lb l _ h.2 x hx
theorem wF {d:ak}{n:Bs}(h:Kn d n):Kn (cn d) n:=by
  unfold Kn at h ⊢;rw [jM trivial]; exact h
theorem U7 {α β:Type}(f:α->β) (l:List α):bD (l.map f)=bD (bD (l.map f)).l:=rfl
theorem U8 {d:ak}(H:d.sz<=1048576) (hr:∀t∈d.aq.l,iC t=some true) (h1:gB d true=[]) (g:gL d=[]):∀t∈(cn d).aq.l,zj (cn d) t:=by
  intro t0 v;obtain⟨t,i,rfl⟩:=List.mem_map.1 (show t0∈(ng d).map bT from v);have i:=(zi.1 i).1;unfold gB at h1;obtain⟨j,k,r⟩:=K0 _ _ (List.append_eq_nil_iff.1 h1).1 t i;unfold gL at g;have m:=List.flatMap_eq_nil_iff.1 g t i;obtain⟨w,z,B⟩:=U6 (hr t i);have I:=d.bq;have L:=Sl.cW (f:=aj.sz) i;have M:=t.bq;have N:=Sl.ej (f:=Bs.sz) t.aX (fun x=>Bs.jW x)
  have J:=Sl.ej (f:=Z7.sz) t.aB Z7.pos;have K:=Sl.ej (f:=Z9.sz) t.aG Z9.pos;have d1:(bif (decide (t.an=(1:Int))) then((decide (t.an=(1:Int)))) else((decide (t.an=(2:Int)))))=decide (t.an=1\/t.an=2):=by
    by_cases h1:t.an=1<;>by_cases g:t.an=2<;>simp [h1,g]
  have d3:(bif (decide (t.an=(3:Int))) then((decide (t.an=(3:Int)))) else((decide (t.an=(4:Int)))))=decide (t.an=3\/t.an=4):=by
    by_cases h1:t.an=3<;>by_cases g:t.an=4<;>simp [h1,g]
  unfold jG at j;unfold qj at k;rw [d1] at j k;rw [d3] at k;have s:∀f∈t.aB.l,Kn d f.aA.aa/\∀x∈f.aH.l,Kn d x.aA.aa:=by
    by_cases hk:t.an=1\/t.an=2
    · rw [dT hk] at j
      exact KZ _ _ j
    · rcases z with e|e|e
      · exact absurd (.inl e) hk
      · exact absurd (.inr e) hk
      · rw [e]; intro f b; cases b
  have C:∀x∈t.aL.l,Kn d x.aA.aa:=by
    rcases B with e|e
    · rw [dF (by omega),cond_false,dF (by omega),cond_false,dT e] at j
      exact Eh _ _ j
    · rw [e]; intro f b; cases b
  have E:∀y∈t.aX.l,Kn d y:=by
    rcases w with e|e
    · unfold kM at m
      rw [dT e] at m;exact La _ _ m
    · rw [e]; intro f b; cases b
  have F:t.an=3->∀x∈t.aG.l,Kn d x.aa:=fun e=>by
    unfold kM at m;rw [dF (by omega),cond_false,dT e] at m;exact Lb _ _ m
  refine⟨fun f b=>?_,fun x hx=>?_,fun hk x hx=>?_,fun y G=>wF (E y G),U7 _ _,fun hk=>?_,fun hk=>?_,fun p q=>?_, ?_, ?_, ?_⟩
  · obtain⟨f,u,rfl⟩:=List.mem_map.1 (show f∈t.aB.l.map dM from b)
    refine⟨wF (s f u).1,fun x hx=>?_⟩;obtain⟨x,o,rfl⟩:=List.mem_map.1 (show x∈f.aH.l.map b9 from hx);exact wF ((s f u).2 x o)
  · obtain⟨x,o,rfl⟩:=List.mem_map.1 (show x∈t.aL.l.map b9 from hx)
    exact wF (C x o)
  · obtain⟨x,o,rfl⟩:=List.mem_map.1 (show x∈t.aG.l.map fB from hx)
    exact wF (F hk x o)
  · show 0<(t.aB.l.map dM).length
    rw [List.length_map];rw [dT (show t.an=1\/t.an=2 from hk),cond_true,decide_eq_false_iff_not] at k;omega
  · show 0<(t.aG.l.map fB).length
    rw [List.length_map];have hk:t.an=3\/t.an=4:=hk;rw [dF (by omega),cond_false,dT hk,cond_true,decide_eq_false_iff_not] at k;omega
  · show 0<(t.aL.l.map b9).length
    rw [List.length_map];have p:¬(t.an=1\/t.an=2):=p;have q:¬(t.an=3\/t.an=4):=q;unfold qk at r;simp only [Bool.or_eq_false_iff,decide_eq_false_iff_not] at r;rw [dF p,cond_false,dF q,cond_false,dT (show t.an=5 from by omega),cond_true,decide_eq_false_iff_not] at k;omega
  · show (t.aB.l.map dM).length<=_
    rw [List.length_map]; omega
  · show (t.aG.l.map fB).length<=_
    rw [List.length_map]; omega
  · show t.aX.l.length<=_
    omega
theorem Rl.cp:∀(n:Nat) (v:af),Rl n v v->Rl n (cR v) (cR v)
 | 0,_,h=>h.elim
 | n+1,v,⟨_,b,_,_,e,f,g,i,k⟩=>by
  rw [mj];refine⟨rfl,⟨rfl,b.2⟩,rfl,rfl,e,f, ?_,fun hk=>?_, ?_⟩
  ·show (v.aD.l.map cR).length<=bB;rw [List.length_map]; exact g
  ·obtain⟨i1,i2,i3⟩:=i hk;exact⟨i1,by show v.aD.l.map cR=[]; rw [i2]; rfl,i3⟩
  ·show aY (Rl n) (v.aD.l.map cR) (v.aD.l.map cR);refine aY.jN rfl fun q x y hx m=>?_;rw [hx] at m;simp only [Option.some.injEq] at m;subst m;rw [List.getElem?_map] at hx;cases j:v.aD.l[q]? with
   | none=>rw [j] at hx; cases hx
   | some z =>
    rw [j] at hx;simp only [Option.map_some,Option.some.injEq] at hx;subst hx;obtain⟨r,o,p⟩:=k.get j;rw [j] at o;simp only [Option.some.injEq] at o;subst o;exact Rl.cp n z p
theorem Ei {N:Nat}{x:Z8}(h:rZ N x):rZ N (b9 x):=⟨h.1,fun hh=>Rl.cp N _ (h.2 hh)⟩
theorem U9 {N:Nat}{t:aj}(h:jL N t):jL N (bT t):=by
 refine⟨?_,fun y b=>?_⟩
 ·show (t.aL.l.map b9).length<=_;rw [List.length_map]; exact h.1
 ·obtain⟨x,f,rfl⟩:=List.mem_map.1 (show y∈t.aL.l.map b9 from b);exact Ei (h.2 x f)
theorem Lc {d:ak}{x:Z8}{p:Bs}(hx:Good d x) (h:gD d x p=[]) (hh:x.bY=true):∃w,iB d x.aA x.cB zv=some (w,0):=by
 obtain⟨v,w,e,b,f⟩:=hx.2 hh;unfold gD at h;rw [hh,b,cond_true] at h;by_cases h0:e=0
 ·subst h0; exact⟨w,f⟩
 ·simp only [dF h0] at h; cases h
theorem Lf {d:ak}(i:∀s,jL nB (aT d.aq.l s).1) (j:sq d){x:Z8}(k:x.sz<=1048576) (hk:rZ nB x) (hl:x.bY=true->∃w,iB d x.aA x.cB zv=some (w,0)) :
  Good (cn d) (b9 x)/\∀p,gD (cn d) (b9 x) p=[]:=by
 have hx:=x.bq;have hw:=x.aA.rQ;have m:∀s,jL nB (aT (cn d).aq.l s).1:=fun s=>by rw [jM trivial]; exact U9 (i s)
 have key:x.bY=true->∃v w,mb (cn d) (b9 x).aA (b9 x).cB zv=some (v,0)/\iB (cn d) (b9 x).aA (b9 x).cB zv=some (w,0):=fun hh=>by
  obtain⟨v,w,e,f,g,_⟩:=JB (N:=nB) JN m (va:=zv) (rY.mono (by unfold nB; omega)) (Ei hk).1 ((Ei hk).2 hh);obtain⟨z,o⟩:=hl hh;have h0:=U5 j (t:=x.aA) (v:=x.cB) (x:=z) (y:=w) (a:=0) (b:=e) trivial (by omega) o g;subst h0;exact⟨v,w,f,g⟩
 refine⟨⟨by rw [D6]; exact k,fun hh=>?_⟩,fun p=>?_⟩
 ·obtain⟨v,w,f,g⟩:=key hh;exact⟨v,w,0,f,g⟩
 ·unfold gD;cases hh:x.bY with
  | false=>rw [show (b9 x).bY=false from hh]; rfl
  | true =>
   obtain⟨v,w,f,_⟩:=key hh;rw [show (b9 x).bY=true from hh,f]; rfl
theorem zn {α β:Type}{f:α->List β}{l:List α}(h:l.flatMap f=[]):∀x∈l,f x=[]:=List.flatMap_eq_nil_iff.1 h
theorem U_ {d:ak}(hr:gW d=some true) (hw:d.wf) (k:d.sz<=1048576) (m:sq d){t:aj}(ht:t∈d.aq.l) (h0:fD d t=[]):uG (cn d) (bT t)/\fD (cn d) (bT t)=[]:=by
 have o:=JF hr hw k;have hg:=D1 hr hw k t ht;have q:=yP hr t ht;have r:=hw.1.2.2 t ht;have v:=hg.1;have z:=t.bq;unfold fD at h0;obtain⟨w,z2⟩:=List.append_eq_nil_iff.1 h0;have gi:∀x∈t.aL.l,Good (cn d) (b9 x)/\∀p,gD (cn d) (b9 x) p=[]:=fun x hx=>by
  have s:=(hg.2.2 x hx).1;unfold fI at z2;exact Lf o m s (DX (DW q x hx) (r.2.2.2.2.2.2.1.2.2 x hx) s) (Lc (hg.2.2 x hx) (zn z2 x hx))
 have u:∀f∈t.aB.l,∀x∈f.aH.l,Good (cn d) (b9 x)/\∀p,gD (cn d) (b9 x) p=[]:=fun f b x hx=>by
  have j:=(hg.2.1 f b).2 x hx;have z3:=zn w f b;unfold fF at z3;have y:f.wf:=r.2.2.2.2.1.2.2 f b;exact Lf o m j.1 (DX (JH q f b x hx) (y.2.1.2.2 x hx) j.1) (Lc j (zn z3 x hx))
 refine⟨⟨by rw [JX]; exact v,fun f b=>?_,fun x hx=>?_⟩, ?_⟩
 ·obtain⟨f,i,rfl⟩:=List.mem_map.1 (show f∈t.aB.l.map dM from b);refine⟨by rw [JW]; exact(hg.2.1 f i).1,fun x hx=>?_⟩;obtain⟨x,g,rfl⟩:=List.mem_map.1 (show x∈f.aH.l.map b9 from hx);exact(u f i x g).1
 ·obtain⟨x,g,rfl⟩:=List.mem_map.1 (show x∈t.aL.l.map b9 from hx);exact(gi x g).1
 ·unfold fD;refine List.append_eq_nil_iff.2 ⟨List.flatMap_eq_nil_iff.2 fun f b=>?_, ?_⟩
  ·obtain⟨f,i,rfl⟩:=List.mem_map.1 (show f∈t.aB.l.map dM from b);unfold fF;refine List.flatMap_eq_nil_iff.2 fun x hx=>?_;obtain⟨x,g,rfl⟩:=List.mem_map.1 (show x∈f.aH.l.map b9 from hx);exact(u f i x g).2 _
  ·unfold fI;refine List.flatMap_eq_nil_iff.2 fun x hx=>?_;obtain⟨x,g,rfl⟩:=List.mem_map.1 (show x∈t.aL.l.map b9 from hx);exact(gi x g).2 _
theorem U' {d:ak}(hr:gW d=some true) (hw:d.wf) (g:d.sz<=1048576) (k:sq d){b:Sl Z6}(e:kg d=some b) (m:b.l=[]):∃a,p9 (cn d)=some a/\a.l=[]:=by
 have hg:=D1 hr hw g;have s:=d.bq;have h1:Sl.sz aj.sz d.aq=1+(d.aq.l.map aj.sz).sum:=rfl;obtain⟨u,o,i⟩:=JM d d.aq.l (Sl.nil:Sl Z6) hg (by simp only [Sl.nil,List.length_nil]; omega);unfold kg at e;rw [o] at e;cases e;have h0:∀t∈d.aq.l,fD d t=[]:=zn (by rw [m] at i; exact i.symm);have j:∀t∈(cn d).aq.l,uG (cn d) t/\fD (cn d) t=[]:=fun t0 p=>by
  obtain⟨t,f,rfl⟩:=List.mem_map.1 (show t0∈(ng d).map bT from p);have f:=(zi.1 f).1;exact U_ hr hw g k f (h0 t f)
 have v:=J_ d;have hq:=(cn d).bq;have w:Sl.sz aj.sz (cn d).aq=1+((cn d).aq.l.map aj.sz).sum:=rfl;obtain⟨a,q,r⟩:=JL (cn d) (cn d).aq.l (Sl.nil:Sl Z6) (fun t ht=>(j t ht).1) (by simp only [Sl.nil,List.length_nil]; omega);refine⟨a, ?_, ?_⟩
 ·unfold p9; rw [q]; rfl
 ·rw [r,List.flatMap_eq_nil_iff.2 fun t ht=>(j t ht).2]; rfl
theorem Va {d:ak}(hr:gW d=some true) (hw:d.wf) (g:d.sz<=1048576):∃x,tF d=some x/\(x.l=[]->gB d true=[]/\gL d=[]/\∃b,kg d=some b/\b.l=[]):=by
 have h0:=d.bq;have hl:=Sl.gz (f:=aj.sz) d.aq aj.pos;have j:∀t∈d.aq.l,t.sz<=1048576:=fun t ht=>by have:=Sl.cW (f:=aj.sz) ht; omega
 obtain⟨u,v,k,n4⟩:=Iu g true;have m:(gB d true).length<=9000000:=by rw [<- k]; exact n4
 obtain⟨i,o⟩:=SS (d:=d) j (by omega) true m;obtain⟨x,y,ex,p,q,hx⟩:=Uf hr hw g;have w:=Tn g;obtain⟨z,f2⟩:=Tf (d:=d) (by omega) (D2 g hw) (by unfold oI; omega);unfold tF;rw [o,oB];by_cases hn:gB d true=[]
 ·rw [hn];rw [show decide ((0:Int)<((((⟨i,[]⟩:Sl Z6).l.length:Nat)):Int))=false from rfl,cond_false,f2,oB,p,D3 (by simp; omega),oB,oB,D3 (by simp only [List.nil_append]; rw [<- q]; omega),oB];refine⟨_,rfl,fun h=>?_⟩;have h:([]++gL d)++y.l=[]:=h;obtain⟨r,s⟩:=List.append_eq_nil_iff.1 h;exact⟨rfl,r,y,rfl,s⟩
 ·have B:0<(gB d true).length:=List.length_pos_iff.2 hn;rw [show decide ((0:Int)<((((⟨i,gB d true⟩:Sl Z6).l.length:Nat)):Int))=true from dT (by show (0:Int)<(((gB d true).length:Nat):Int); omega),cond_true];exact⟨_,rfl,fun h=>absurd h hn⟩
theorem Vb {d:ak}(hr:gW d=some true) (hw:d.wf) (i:d.sz<=1048576) (h1:gB d true=[]) (k:gL d=[]){b:Sl Z6}(e:kg d=some b) (m:b.l=[]):∃y,vY (cn d)=some y/\y.l=[]:=by
 have u:=J_ d;have o:=Uu hw;have h0:=d.bq;have hl:=Sl.gz (f:=aj.sz) d.aq aj.pos;have v:=(cn d).bq;have w:=Sl.gz (f:=aj.sz) (cn d).aq aj.pos;obtain⟨c1,c2⟩:=UO h1;have g:Gd d:=⟨by omega,c2,fun t ht f p=>((D2 i hw) t ht).2.1 f p |>.2.2⟩;have c3:=UW g k;obtain⟨a,q,j⟩:=U' hr hw i (U4 g i) e m;obtain⟨x,r,s,n4⟩:=Iu (d:=cn d) (by omega) true
 obtain⟨z,f1⟩:=Ta (d:=cn d) (by omega) (D2 (by omega) o) (by rw [c3]; exact Nat.zero_le _);unfold vY;rw [r,oB,s,c1,show decide ((0:Int)<((([]:List Z6).length:Nat):Int))=false from rfl,cond_false,f1,oB,q,oB,c3,D3 (by rw [j]; simp),oB];exact⟨_,rfl,by rw [j]; rfl⟩
theorem Vc {d:ak}(hr:gW d=some true) (hw:d.wf) (g:d.sz<=1048576) (h1:gB d true=[]) (i:gL d=[]){b:Sl Z6}(e:kg d=some b) (j:b.l=[]):yF d (Sl.nil:Sl Bs) (Sl.nil:Sl Bs)=some (cn d,(Sl.nil:Sl Z6)):=by
 obtain⟨y,v1,v2⟩:=Vb hr hw g h1 i e j;have h0:=d.bq;have hl:=Sl.gz (f:=aj.sz) d.aq aj.pos;have k:=yP hr;have hk:=Uz (D:=cn d) rfl (by show ((ng d).map bT).length<=_; rw [sn,List.length_map]; omega) (U8 g k h1 i);have m:ak.mk (bD (d.aq.l.map bT))=cn d:=by unfold cn; rw [sn]
 unfold yF uq;rw [show Z2.mk ak.zero false=Z2.mk (ak.mk (bD ((d.aq.l.take 0).map bT))) false from rfl,Ki g hw _ 0 (by omega) (by omega),m];unfold v7;rw [P8,hk,oB,show F0=(F0-1)+1 from by rw [fK],vZ];simp only [cond_false];unfold yE;rw [Rq,v1,oB,v2];rfl
theorem Vd {d:ak}(hw:d.wf) (f:d.sz<=1048576):∃b,tL d=some b/\(b=true->gW d=some true/\gB d true=[]/\gL d=[]/\∃b,kg d=some b/\b.l=[]):=by
 have no:∀i:Prop,∃b,some false=some b/\(b=true->i):=fun _=>⟨false,rfl,fun h=>by cases h⟩;obtain⟨j,k,_⟩:=Ug (d:=d) f;obtain⟨m,g⟩:=Sb d f;unfold tL;rw [k,oB,g];cases j
 case true=>exact no _
 cases m
 case false=>exact no _
 obtain⟨x,o,p⟩:=Va g hw f;rw [o];refine⟨decide (((x.l.length:Nat):Int)=(0:Int)),rfl,fun h=>⟨rfl,p ?_⟩⟩;have:=oD h;exact List.length_eq_zero_iff.1 (by omega)
theorem Ve:we=some true:=by kernel_rfl
theorem N9 {d:ak}(hw:d.wf) (g:d.sz<=1048576):wm d=some true:=by
 obtain⟨b,e,h⟩:=Vd hw g;unfold wm;rw [e,oB,Ve];cases b
 case false=>rfl
 obtain⟨h1,i,j,y,k,l⟩:=h rfl;have o:=d.bq;have m:rP (cn d) d=some true:=by
  unfold cn; rw [sn];exact UE rfl fun x hx=>by have:=Sl.cW (f:=aj.sz) hx; omega
 simp only [Bool.not_true,cond_false,oB];rw [Vc h1 hw g i j k l,oB,m];rfl
end Go.Proofs
