import Derived.Test.YtdlobimnfmjonaaGreatDoorV10
set_option maxRecDepth 100000
set_option maxHeartbeats 2000000
set_option linter.unusedVariables false
set_option linter.unusedSimpArgs false
namespace Go.Proofs
open Go Go.Ab
def fh (d:ai) (n:Bs) (k:Int):Int:=bif !(bg d.aj.l n).2&&!cW n then 8 else bif !(bg d.aj.l n).2||!decide ((bg d.aj.l n).1.ak=k) then 9 else 0
def mw (p n:Bs) (b:Bool):List Z5:=b7 b 22 (p++[40]++n++[41])
def lG (p:Bs) (y:Z6) (l:List Z7):List Z5:=l.flatMap fun a=>mw p a.aa (!(dz y.az.l a.aa).2||!kH a.ax (dz y.az.l a.aa).1.ax)
def nL (p:Bs) (x:Z6) (l:List Z7):List Z5:=l.flatMap fun b=>mw p b.aa ((!(dz x.az.l b.aa).2&&fo b.ax.aK.l)&&!b.b_)
def mz (d:ai) (t:ag) (x:Z6):List Z5 :=
 bif !(eW t.an.l x.aa).2 then [Z5.mk 20 (t.aa++[46]++x.aa)] else
  (b7 (!lF d (eW t.an.l x.aa).1.ax x.ax) 10 (t.aa++[46]++x.aa)++(lG (t.aa++[46]++x.aa) (eW t.an.l x.aa).1 x.az.l++nL (t.aa++[46]++x.aa) x (eW t.an.l x.aa).1.az.l))
def mA (d:ai) (t:ag) (l:List Z6):List Z5:=l.flatMap (mz d t)
def gA (d:ai) (s:List Bs) (n:Bs) (k:Int):Int:=bif decide (fh d n k=0)&&s.contains n then 7 else fh d n k
def lH (d:ai) (t:ag):List Bs->List Bs->List Z5
 | _,[]=>[]
 | s,n::r=>(bif !decide (gA d s n 2=0) then [Z5.mk (gA d s n 2) t.aa] else mA d t (bg d.aj.l n).1.an.l)++lH d t (s++[n]) r
def mB (d:ai) (t:ag):List Bs->List Z8->List Z5
 | _,[]=>[]
 | s,m::r=>b7 (!decide (gA d s m.aa 1=0)) (gA d s m.aa 1) (t.aa++[46]++m.aa)++mB d t (s++[m.aa]) r
def pn (d:ai) (t:ag):List Z5:=bif decide (t.ak=1) then lH d t [] t.aH.l else bif decide (t.ak=3) then mB d t [] t.au.l else []
def kI (d:ai):List Z5:=d.aj.l.flatMap (pn d)
def pq:Nat:=4000000000000
theorem Ew {s r:Sl Z5}(h:s.l.length+r.l.length<=pq):bf 24 s r=some ⟨s.nl&&r.l.isEmpty,s.l++r.l⟩:=by
 unfold pq at h;unfold bf; rw [if_pos]; unfold cC; omega
def FA (o:Option Z0) (c:Z0) (X:List Z5):Prop:=c.dR.l.length+X.length<=pq->∃nl,o=some (Z0.mk c.Fd ⟨nl,c.dR.l++X⟩)
theorem FA.pure (c:Z0):FA (some c) c []:=fun _=>⟨c.dR.nl,by simp⟩
theorem FA.bind {o:Option Z0}{f:Z0->Option Z0}{c:Z0}{X Y:List Z5}(h:FA o c X) (b:∀c1,c1.Fd=c.Fd->FA (f c1) c1 Y):FA (o.bind f) c (X++Y):=fun g=>by
 simp only [List.length_append] at g;obtain⟨j,k⟩:=h (by omega);obtain⟨m,p⟩:=b (Z0.mk c.Fd ⟨j,c.dR.l++X⟩) rfl (by simp only [List.length_append]; omega);exact⟨m,by rw [k,oB,p]; simp only [List.append_assoc]⟩
theorem FA.id {o:Option Z0}{c:Z0}{X:List Z5}(h:FA o c X):FA (o.bind fun x=>some x) c X:=fun b=>by
 obtain⟨f,g⟩:=h b; exact⟨f,by rw [g]; rfl⟩
theorem zb (c:Z0) (e:Int) (at_:Bs):FA (kJ c e at_) c [Z5.mk e at_]:=fun b=>by
 unfold kJ;rw [Ew (by simpa using b)];exact⟨_,rfl⟩
theorem Jv {p n:Bs}(l:p.length<=10000000) (hn:n.length<=1048576) (c:Z0) (b:Bool):FA (bif b then((bV p ([40]:Bs)).bind fun f=>(bV f n).bind fun g=>(bV g ([41]:Bs)).bind fun j=>(kJ c (22:Int) j).bind fun k=>some k) else some c) c (mw p n b):=by
 cases b
 ·exact FA.pure c
 ·rw [cond_true,dI (by simp; omega),oB,dI (by simp; omega),oB,dI (by simp; omega),oB];exact(zb c 22 _).id
theorem Jw {p:Bs}(b:p.length<=10000000) (y:Z6×Bool):∀(l:List Z7) (c:Z0),(∀a∈l,a.aa.length<=1048576)->FA (mC p y l c) c (lG p y.1 l)
 | [],c,_=>by rw [mC]; exact .pure c
 | a::r,c,h=>by
  rw [mC];simp only [on,yW,Sa];have e:lG p y.1 (a::r)=mw p a.aa (!(dz y.1.az.l a.aa).2||!kH a.ax (dz y.1.az.l a.aa).1.ax)++lG p y.1 r:=rfl;rw [e];have key:∀v:Bool,(!(dz y.1.az.l a.aa).2||!v)=(!(dz y.1.az.l a.aa).2||!kH a.ax (dz y.1.az.l a.aa).1.ax)->FA (Option.bind (bif ((!(dz y.1.az.l a.aa).2)||(!v)) then((bV p ([40]:Bs)).bind fun f=>(bV f a.aa).bind fun g=>(bV g ([41]:Bs)).bind fun j=>(kJ c (22:Int) j).bind fun k=>some k) else(some c)) fun m=>mC p y r m) c (mw p a.aa (!(dz y.1.az.l a.aa).2||!kH a.ax (dz y.1.az.l a.aa).1.ax)++lG p y.1 r):=by
   intro v hv;rw [hv];exact FA.bind (Jv b (h a (.head _)) c _) fun c1 _=>Jw b y r c1 fun x hx=>h x (.tail _ hx)
  cases hk:(dz y.1.az.l a.aa).2
  ·rw [hk] at key;exact key false rfl
  ·rw [hk] at key;exact key _ rfl
theorem Jx (x:Z6){p:Bs}(b:p.length<=10000000):∀(l:List Z7) (c:Z0),(∀a∈l,a.aa.length<=1048576)->FA (mD x p l c) c (nL p x l)
 | [],c,_=>by rw [mD]; exact .pure c
 | a::r,c,h=>by
  rw [mD];simp only [on,yW,wu];have e:nL p x (a::r)=mw p a.aa ((!(dz x.az.l a.aa).2&&fo a.ax.aK.l)&&!a.b_)++nL p x r:=rfl;have f:((!(dz x.az.l a.aa).2)&&(bif (!(dz x.az.l a.aa).2) then fo a.ax.aK.l else false))=(!(dz x.az.l a.aa).2&&fo a.ax.aK.l):=by cases (dz x.az.l a.aa).2<;>rfl
  rw [e,f];exact FA.bind (Jv b (h a (.head _)) c _) fun c1 _=>Jx x b r c1 fun x hx=>h x (.tail _ hx)
theorem Jy (l:List Z6) (s:Bs):(eW l s).1=Z6.zero\/(eW l s).1∈l:=by
 unfold eW;cases h:l.find? (fun t=>t.aa==s) with
 | none=>exact .inl rfl
 | some t=>exact .inr (List.mem_of_find?_eq_some h)
def pu (f:Z6):Prop:=f.aa.length<=1048576/\(∀a∈f.az.l,a.aa.length<=1048576)/\ep f.ax.aK
theorem Se:pu Z6.zero:=⟨Nat.zero_le _,fun _ h=>(by cases h),⟨fun _=>rfl,Nat.zero_le _⟩⟩
theorem Jz {l:List Z6}(h:∀f∈l,pu f) (s:Bs):pu (eW l s).1:=by
 rcases Jy l s with e|e
 ·rw [e]; exact Se
 ·exact h _ e
theorem JA {d:ai}(b:d.aj.l.length<=1048576){t:ag}(ht:t.aa.length<=1048576) (g:∀f∈t.an.l,pu f):∀(l:List Z6) (c:Z0),c.Fd=d->(∀f∈l,pu f)->FA (pw t l c) c (mA d t l)
 | [],c,_,_=>by rw [pw]; exact .pure c
 | x::r,c,hc,h=>by
  obtain⟨s,j,k⟩:=h x (.head _);obtain⟨u,m,p⟩:=Jz g x.aa;rw [pw];simp only [on,Rt];rw [dI (by simp; omega),oB,dI (by simp; omega),oB];have e:mA d t (x::r)=mz d t x++mA d t r:=rfl;rw [e];refine FA.bind ?_ fun c1 h1=>JA b ht g r c1 (h1.trans hc) fun f q=>h f (.tail _ q);unfold mz;cases (eW t.an.l x.aa).2
  ·exact(zb c 20 _).id
  ·simp only [Bool.not_true,cond_false];rw [hc,(Bv b p k).1,oB];refine FA.bind ?_ fun c1 _=>FA.bind (Jw (by simp; omega) _ _ c1 j) fun c2 _=>(Jx x (by simp; omega) _ c2 m).id;cases lF d (eW t.an.l x.aa).1.ax x.ax
   ·exact(zb c 10 _).id
   ·exact .pure c
theorem JB (c:Z0) (n:Bs) (k:Int):wG c n k=fh c.Fd n k:=by
 unfold wG fh;simp only [on,jV];cases (bg c.Fd.aj.l n).2<;>cases cW n<;>rfl
def kK (t:ag):Prop:=t.aa.length<=1048576/\(∀f∈t.an.l,pu f)/\∀m∈t.au.l,m.aa.length<=1048576
theorem Sg:kK ag.zero:=⟨Nat.zero_le _,fun _ h=>(by cases h),fun _ h=>(by cases h)⟩
theorem JC {d:ai}(h:∀t∈d.aj.l,kK t) (s:Bs):kK (bg d.aj.l s).1:=by
 rcases yU d.aj.l s with e|e
 ·rw [e]; exact Sg
 ·exact h _ e
theorem JD {d:ai}(b:d.aj.l.length<=1048576) (hk:∀t∈d.aj.l,kK t){t:ag}(ht:kK t):∀(l:List Bs) (i:Nat) (c:Z0),t.aH.l.drop i=l->c.Fd=d->FA (nM t l i c) c (lH d t (t.aH.l.take i) l)
 | [],i,c,_,_=>by rw [nM]; exact .pure c
 | n::r,i,c,f,hc=>by
  rw [nM,lH];simp only [on,JB,El,jV,hc];have e:(bif ((decide (fh d n 2=(0:Int)))&&(bif (decide (fh d n 2=(0:Int))) then(bif (decide (fh d n 2=(0:Int))) then(⟨t.aH.nl,t.aH.l.take i⟩:Sl Bs) else(Sl.nil:Sl Bs)).l.contains n else false)) then((7:Int)) else(fh d n 2))=gA d (t.aH.l.take i) n 2:=by
   unfold gA;cases decide (fh d n 2=(0:Int))<;>rfl
  rw [e,<- sX f];refine FA.bind ?_ fun c1 h1=>JD b hk ht r (i+1) c1 (mm f).1 (h1.trans hc);cases decide (gA d (t.aH.l.take i) n 2=0)
  ·exact(zb c _ _).id
  ·simp only [Bool.not_true,cond_false];refine FA.id ?_;unfold zc;exact(JA b ht.1 ht.2.1 _ c hc (JC hk n).2.1).id
theorem JE (n:Bs):∀(l:List Z8) (i:Nat),(match nN (fun b=>b.aa==n) l i with|.inl _=>false|.inr e=>decide ((0:Int)<=e))=(l.map Z8.aa).contains n
 | [],i=>rfl
 | a::r,i=>by
  rw [nN,sW,List.any_cons,<- sW,<- JE n r (i+1)];simp only [on];cases a.aa==n
  ·rfl
  ·simp
theorem Sh (s:Sl Z8) (n:Bs) (m:Z8) (hm:m.aa=n):s6 s (fun b=>uT b m)=(s.l.map Z8.aa).contains n:=by
 rw [<- JE n s.l 0];unfold s6 zd;have e:(fun b:Z8=>uT b m)=fun b=>b.aa==n:=by funext b; unfold uT; rw [hm]
 rw [e];simp only [on];cases nN (fun b=>b.aa==n) s.l 0<;>rfl
theorem JF {d:ai}{t:ag}(ht:kK t):∀(l:List Z8) (i:Nat) (c:Z0),t.au.l.drop i=l->c.Fd=d->(∀m∈l,m.aa.length<=1048576)->FA (nO t l i c) c (mB d t ((t.au.l.take i).map Z8.aa) l)
 | [],i,c,_,_,_=>by rw [nO]; exact .pure c
 | m::r,i,c,b,hc,hm=>by
  have h1:=ht.1; have j:=hm m (.head _);rw [nO,mB];simp only [on,JB,hc,Sh _ m.aa m rfl];have e:(bif ((decide (fh d m.aa 1=(0:Int)))&&(bif (decide (fh d m.aa 1=(0:Int))) then((bif (decide (fh d m.aa 1=(0:Int))) then(⟨t.au.nl,t.au.l.take i⟩:Sl Z8) else(Sl.nil:Sl Z8)).l.map Z8.aa).contains m.aa else false)) then((7:Int)) else(fh d m.aa 1))=gA d ((t.au.l.take i).map Z8.aa) m.aa 1:=by
   unfold gA;cases decide (fh d m.aa 1=(0:Int))<;>rfl
  have f:(t.au.l.take (i+1)).map Z8.aa=(t.au.l.take i).map Z8.aa++[m.aa]:=by rw [sX b,List.map_append]; rfl
  rw [e,<- f];refine FA.bind ?_ fun c1 g=>JF ht r (i+1) c1 (mm b).1 (g.trans hc) fun x hx=>hm x (.tail _ hx);cases decide (gA d ((t.au.l.take i).map Z8.aa) m.aa 1=0)
  ·simp only [Bool.not_false,cond_true];rw [dI (by simp; omega),oB,dI (by simp; omega),oB];exact(zb c _ _).id
  ·exact .pure c
theorem JG {d:ai}(b:d.aj.l.length<=1048576) (hk:∀t∈d.aj.l,kK t):∀(l:List ag) (c:Z0),(∀t∈l,t∈d.aj.l)->c.Fd=d->FA (px l c) c (l.flatMap (pn d))
 | [],c,_,_=>by rw [px]; exact .pure c
 | t::r,c,hm,hc=>by
  have ht:=hk t (hm t (.head _));rw [px,List.flatMap_cons];simp only [on];refine FA.bind ?_ fun c1 f=>JG b hk r c1 (fun x hx=>hm x (.tail _ hx)) (f.trans hc);unfold pn;cases decide (t.ak=(1:Int))
  ·simp only [cond_false];cases decide (t.ak=(3:Int))
   ·exact .pure c
   ·simp only [cond_true];exact(JF ht t.au.l 0 c rfl hc ht.2.2).id
  ·simp only [cond_true];refine FA.id ?_;unfold Bw;exact(JD b hk ht t.aH.l 0 c rfl hc).id
theorem Si {d:ai}(b:d.aj.l.length<=1048576) (hk:∀t∈d.aj.l,kK t) (f:(kI d).length<=pq):∃nl,ze d=some ⟨nl,kI d⟩:=by
 obtain⟨nl,e⟩:=JG b hk d.aj.l (Z0.mk d Sl.nil) (fun _ h=>h) rfl (by show 0+_<=_; unfold kI at f; omega);unfold ze;rw [e];exact⟨nl,rfl⟩
theorem Sj (s:Bs) (l:List Z7):lp s l=(match l.find? (fun t=>t.aa==s) with|some t=>Sum.inr (t,true)|none=>Sum.inl ()):=by
 induction l with
 | nil=>rfl
 | cons a r b =>
  rw [lp,List.find?_cons];simp only [on,b];cases a.aa==s<;>rfl
theorem Bx (t:Sl Z7) (s:Bs):jG t s=dz t.l s:=by
 unfold jG dz on;rw [Sj];cases t.l.find? (fun t=>t.aa==s)<;>rfl
theorem Sk (s:Bs) (l:List Z6):nv s l=(match l.find? (fun t=>t.aa==s) with|some t=>Sum.inr (t,true)|none=>Sum.inl ()):=by
 induction l with
 | nil=>rfl
 | cons a r b =>
  rw [nv,List.find?_cons];simp only [on,b];cases a.aa==s<;>rfl
theorem Sn (t:ag) (s:Bs):rY t s=eW t.an.l s:=by
 unfold rY eW on;rw [Sk];cases t.an.l.find? (fun t=>t.aa==s)<;>rfl
def RF (o:Option (Sl Z5)) (s:Sl Z5) (X:List Z5):Prop:=s.l.length+X.length<=pq->∃nl,o=some ⟨nl,s.l++X⟩
theorem RF.pure (s:Sl Z5):RF (some s) s []:=fun _=>⟨s.nl,by simp⟩
theorem RF.bind {o:Option (Sl Z5)}{f:Sl Z5->Option (Sl Z5)}{s:Sl Z5}{X Y:List Z5}(h:RF o s X) (b:∀s1,RF (f s1) s1 Y):RF (o.bind f) s (X++Y):=fun g=>by
 simp only [List.length_append] at g;obtain⟨j,k⟩:=h (by omega);obtain⟨m,p⟩:=b ⟨j,s.l++X⟩ (by simp only [List.length_append]; omega);exact⟨m,by rw [k,oB,p]; simp only [List.append_assoc]⟩
theorem RF.id {o:Option (Sl Z5)}{s:Sl Z5}{X:List Z5}(h:RF o s X):RF (o.bind fun x=>some x) s X:=fun b=>by
 obtain⟨f,g⟩:=h b; exact⟨f,by rw [g]; rfl⟩
theorem By (s:Sl Z5) (e:Int) (at_:Bs):RF (bf 24 s (⟨false,[Z5.mk e at_]⟩:Sl Z5)) s [Z5.mk e at_]:=fun b=>⟨_,Ew (by simpa using b)⟩
theorem Ex (s:Sl Z5){o:Option (Sl Z5)}{X:List Z5}(h:X.length<=pq->∃nl,o=some ⟨nl,X⟩):RF (o.bind fun x=>bf 24 s x) s X:=fun b=>by
 obtain⟨g,f⟩:=h (by omega);rw [f,oB,Ew (by simpa using b)];exact⟨_,rfl⟩
theorem JH {p n:Bs}(l:p.length<=10000000) (hn:n.length<=1048576) (s:Sl Z5) (b:Bool):RF (bif b then((bV p ([40]:Bs)).bind fun f=>(bV f n).bind fun g=>(bV g ([41]:Bs)).bind fun j=>(bf 24 s (⟨false,[(Z5.mk 22 j)]⟩:Sl Z5)).bind fun k=>some k) else(some s)) s (mw p n b):=by
 cases b
 ·exact RF.pure s
 ·rw [cond_true,dI (by simp; omega),oB,dI (by simp; omega),oB,dI (by simp; omega),oB];exact(By s 22 _).id
theorem JI {p:Bs}(b:p.length<=10000000) (y:Z6×Bool):∀(l:List Z7) (s:Sl Z5),(∀a∈l,a.aa.length<=1048576)->RF (mF p y l s) s (lG p y.1 l)
 | [],s,_=>by rw [mF]; exact .pure s
 | a::r,s,h=>by
  rw [mF];simp only [on,Bx,Sb];have e:lG p y.1 (a::r)=mw p a.aa (!(dz y.1.az.l a.aa).2||!kH a.ax (dz y.1.az.l a.aa).1.ax)++lG p y.1 r:=rfl;rw [e];have key:∀v:Bool,(!(dz y.1.az.l a.aa).2||!v)=(!(dz y.1.az.l a.aa).2||!kH a.ax (dz y.1.az.l a.aa).1.ax)->RF (Option.bind (bif ((!(dz y.1.az.l a.aa).2)||(!v)) then((bV p ([40]:Bs)).bind fun f=>(bV f a.aa).bind fun g=>(bV g ([41]:Bs)).bind fun j=>(bf 24 s (⟨false,[(Z5.mk 22 j)]⟩:Sl Z5)).bind fun k=>some k) else(some s)) fun m=>mF p y r m) s (mw p a.aa (!(dz y.1.az.l a.aa).2||!kH a.ax (dz y.1.az.l a.aa).1.ax)++lG p y.1 r):=by
   intro v hv;rw [hv];exact RF.bind (JH b (h a (.head _)) s _) fun s1=>JI b y r s1 fun x hx=>h x (.tail _ hx)
  cases hk:(dz y.1.az.l a.aa).2
  ·rw [hk] at key;exact key false rfl
  ·rw [hk] at key;exact key _ rfl
theorem JJ (x:Z6){p:Bs}(b:p.length<=10000000):∀(l:List Z7) (s:Sl Z5),(∀a∈l,a.aa.length<=1048576)->RF (mG x p l s) s (nL p x l)
 | [],s,_=>by rw [mG]; exact .pure s
 | a::r,s,h=>by
  rw [mG];simp only [on,Bx,wy];have e:nL p x (a::r)=mw p a.aa ((!(dz x.az.l a.aa).2&&fo a.ax.aK.l)&&!a.b_)++nL p x r:=rfl;have f:(((!(dz x.az.l a.aa).2)&&(bif (!(dz x.az.l a.aa).2) then fo (bif (!(dz x.az.l a.aa).2) then a else Z7.zero).ax.aK.l else false))&&(!(bif ((!(dz x.az.l a.aa).2)&&(bif (!(dz x.az.l a.aa).2) then fo (bif (!(dz x.az.l a.aa).2) then a else Z7.zero).ax.aK.l else false)) then a else Z7.zero).b_))=((!(dz x.az.l a.aa).2&&fo a.ax.aK.l)&&!a.b_):=by
   cases (dz x.az.l a.aa).2
   ·simp only [Bool.not_false,Bool.true_and,cond_true];cases fo a.ax.aK.l<;>rfl
   ·rfl
  rw [e,f];exact RF.bind (JH b (h a (.head _)) s _) fun s1=>JJ x b r s1 fun x hx=>h x (.tail _ hx)
theorem Sp {d:ai}(g:d.aj.l.length<=1048576){t:ag}(ht:t.aa.length<=1048576) (j:∀f∈t.an.l,pu f){x:Z6}(hx:pu x) (b:(mz d t x).length<=pq):∃nl,s7 d t x=some ⟨nl,mz d t x⟩:=by
 obtain⟨u,k,m⟩:=hx;obtain⟨v,p,q⟩:=Jz j x.aa;unfold s7;simp only [on,Sn];rw [dI (by simp; omega),oB,dI (by simp; omega),oB]
 revert b
 unfold mz;cases (eW t.an.l x.aa).2
 ·exact fun _=>⟨false,rfl⟩
 ·simp only [Bool.not_true,cond_false];intro b;rw [(Bv g q m).2,oB];have h1:RF (bif (!lF d (eW t.an.l x.aa).1.ax x.ax) then((bf 24 (Sl.nil:Sl Z5) (⟨false,[(Z5.mk 10 (t.aa++[46]++x.aa))]⟩:Sl Z5)).bind fun r=>some r) else(some (Sl.nil:Sl Z5))) (Sl.nil:Sl Z5) (b7 (!lF d (eW t.an.l x.aa).1.ax x.ax) 10 (t.aa++[46]++x.aa)):=by
   cases lF d (eW t.an.l x.aa).1.ax x.ax
   ·exact(By _ 10 _).id
   ·exact .pure _
  exact RF.bind h1 (fun s1=>RF.bind (JI (by simp; omega) _ _ s1 k) fun s=>(JJ x (by simp; omega) _ s p).id) (by show 0+_<=_; omega)
theorem JK {d:ai}(j:d.aj.l.length<=1048576){t:ag}(ht:t.aa.length<=1048576) (k:∀f∈t.an.l,pu f):∀(l:List Z6) (s:Sl Z5),(∀f∈l,pu f)->RF (mH d t l s) s (mA d t l)
 | [],s,_=>by rw [mH]; exact .pure s
 | x::r,s,h=>by
  rw [mH];simp only [on];have e:mA d t (x::r)=mz d t x++mA d t r:=rfl;have m:((s7 d t x).bind fun b=>(bf 24 s b).bind fun g=>mH d t r g)=((s7 d t x).bind fun b=>bf 24 s b).bind fun g=>mH d t r g:=by
   cases s7 d t x<;>rfl
  rw [e,m];exact RF.bind (Ex s (Sp j ht k (h x (.head _)))) fun s1=>JK j ht k r s1 fun f p=>h f (.tail _ p)
theorem JL (d:ai) (n:Bs) (k:Int) (hk:k≠0):v8 d n k=fh d n k:=by
 unfold v8 fh;simp only [on,jY,show iO n=cW n from rfl];cases b:(bg d.aj.l n).2
 ·rw [uQ b];have:decide (ag.zero.ak=k)=false:=dF fun e=>hk e.symm;rw [this];cases cW n<;>rfl
 ·cases cW n<;>rfl
theorem JM {d:ai}(b:d.aj.l.length<=1048576) (hk:∀t∈d.aj.l,kK t){t:ag}(ht:kK t):∀(l:List Bs) (i:Nat) (s:Sl Z5),t.aH.l.drop i=l->RF (nP d t l i s) s (lH d t (t.aH.l.take i) l)
 | [],i,s,_=>by rw [nP]; exact .pure s
 | n::r,i,s,f=>by
  rw [nP,lH];simp only [on,JL d n 2 (by decide),Er,jY];have e:(bif ((decide (fh d n 2=(0:Int)))&&(bif (decide (fh d n 2=(0:Int))) then(bif (decide (fh d n 2=(0:Int))) then(⟨t.aH.nl,t.aH.l.take i⟩:Sl Bs) else(Sl.nil:Sl Bs)).l.contains (bif (decide (fh d n 2=(0:Int))) then n else([]:Bs)) else false)) then((7:Int)) else(fh d n 2))=gA d (t.aH.l.take i) n 2:=by
   unfold gA;cases decide (fh d n 2=(0:Int))<;>rfl
  rw [e,<- sX f];refine RF.bind ?_ fun s1=>JM b hk ht r (i+1) s1 (mm f).1;cases decide (gA d (t.aH.l.take i) n 2=0)
  ·exact(By s _ _).id
  ·simp only [Bool.not_true,cond_false];exact(JK b ht.1 ht.2.1 _ s (JC hk n).2.1).id
theorem JN {d:ai}{t:ag}(ht:kK t):∀(l:List Z8) (i:Nat) (s:Sl Z5),t.au.l.drop i=l->(∀m∈l,m.aa.length<=1048576)->RF (nQ d t l i s) s (mB d t ((t.au.l.take i).map Z8.aa) l)
 | [],i,s,_,_=>by rw [nQ]; exact .pure s
 | m::r,i,s,b,hm=>by
  have h1:=ht.1; have g:=hm m (.head _);rw [nQ,mB];simp only [on,JL d m.aa 1 (by decide),Js,<- sW];have e:(bif ((decide (fh d m.aa 1=(0:Int)))&&(bif (decide (fh d m.aa 1=(0:Int))) then((bif (decide (fh d m.aa 1=(0:Int))) then(⟨t.au.nl,t.au.l.take i⟩:Sl Z8) else(Sl.nil:Sl Z8)).l.map Z8.aa).contains m.aa else false)) then((7:Int)) else(fh d m.aa 1))=gA d ((t.au.l.take i).map Z8.aa) m.aa 1:=by
   unfold gA;cases decide (fh d m.aa 1=(0:Int))<;>rfl
  have f:(t.au.l.take (i+1)).map Z8.aa=(t.au.l.take i).map Z8.aa++[m.aa]:=by rw [sX b,List.map_append]; rfl
  rw [e,<- f];refine RF.bind ?_ fun s1=>JN ht r (i+1) s1 (mm b).1 fun x hx=>hm x (.tail _ hx);cases decide (gA d ((t.au.l.take i).map Z8.aa) m.aa 1=0)
  ·simp only [Bool.not_false,cond_true];rw [dI (by simp; omega),oB,dI (by simp; omega),oB];exact(By s _ _).id
  ·exact .pure s
theorem JO {d:ai}(f:d.aj.l.length<=1048576) (hk:∀t∈d.aj.l,kK t):∀(l:List ag) (s:Sl Z5),(∀t∈l,t∈d.aj.l)->RF (py d l s) s (l.flatMap (pn d))
 | [],s,_=>by rw [py]; exact .pure s
 | t::r,s,hm=>by
  have ht:=hk t (hm t (.head _));rw [py,List.flatMap_cons];simp only [on];refine RF.bind ?_ fun s1=>JO f hk r s1 fun x hx=>hm x (.tail _ hx);have g:∀o:Option (Sl Z5),(o.bind fun b=>(bf 24 s b).bind fun j=>some j)=(o.bind fun b=>bf 24 s b).bind fun x=>some x:=fun o=>by cases o<;>rfl
  unfold pn;cases decide (t.ak=(1:Int))
  ·simp only [cond_false];cases decide (t.ak=(3:Int))
   ·exact .pure s
   ·simp only [cond_true];rw [g];refine(Ex s fun k=>?_).id;obtain⟨nl,e⟩:=JN (d:=d) ht t.au.l 0 (Sl.nil:Sl Z5) rfl ht.2.2 (by show 0+_<=_; simp only [List.take_zero,List.map_nil]; omega);unfold Bz;rw [e];exact⟨nl,rfl⟩
  ·simp only [cond_true];rw [g];refine(Ex s fun k=>?_).id;obtain⟨nl,e⟩:=JM f hk ht t.aH.l 0 (Sl.nil:Sl Z5) rfl (by show 0+_<=_; simp only [List.take_zero]; omega);unfold BA;rw [e];exact⟨nl,rfl⟩
theorem Sq {d:ai}(b:d.aj.l.length<=1048576) (hk:∀t∈d.aj.l,kK t) (f:(kI d).length<=pq):∃nl,zf d=some ⟨nl,kI d⟩:=by
 obtain⟨nl,e⟩:=JO b hk d.aj.l (Sl.nil:Sl Z5) (fun _ h=>h) (by show 0+_<=_; unfold kI at f; omega);unfold zf;rw [e];exact⟨nl,rfl⟩
theorem JP (p n:Bs) (b:Bool):(mw p n b).length<=1:=by unfold mw b7; cases b<;>simp
theorem qB {α β:Type}{f:α->List β}{g:α->Nat}(h:∀x,(f x).length<=g x):∀l:List α,(l.flatMap f).length<=(l.map g).sum
 | []=>Nat.le_refl _
 | a::r=>by
  rw [List.flatMap_cons,List.length_append,List.map_cons,List.sum_cons];have:=h a; have:=qB h r; omega
theorem Ey {α:Type}(l:List α):(l.map fun _=>1).sum=l.length:=by
 induction l with
 | nil=>rfl
 | cons a r b=>simp only [List.map_cons,List.sum_cons,List.length_cons,b]; omega
theorem JQ (p:Bs) (y:Z6) (l:List Z7):(lG p y l).length<=l.length/\(nL p y l).length<=l.length:=by
 rw [<- Ey l];exact⟨qB (fun _=>JP _ _ _) l,qB (fun _=>JP _ _ _) l⟩
theorem Ez (f:Z6):f.az.l.length+1<=f.sz:=by
 have:=f.bA; have:=Sl.ja (f:=Z7.sz) f.az Z7.pos; omega
theorem Sr {t:ag}(n:Bs):(eW t.an.l n).1.az.l.length<=t.sz:=by
 rcases Jy t.an.l n with e|e
 ·rw [e]; exact Nat.zero_le _
 ·have:=Ez (eW t.an.l n).1; have:=Sl.dA (f:=Z6.sz) e; have:=t.bA; omega
theorem Ss (d:ai) (t:ag) (x:Z6):(mz d t x).length<=x.sz+t.sz:=by
 have h1:=Ez x;unfold mz;cases (eW t.an.l x.aa).2
 ·simp only [Bool.not_false,cond_true,List.length_cons,List.length_nil]; omega
 ·simp only [Bool.not_true,cond_false,List.length_append];have b:=(JQ (t.aa++[46]++x.aa) (eW t.an.l x.aa).1 x.az.l).1;have f:=(JQ (t.aa++[46]++x.aa) x (eW t.an.l x.aa).1.az.l).2;have g:=Sr (t:=t) x.aa;have j:(b7 (!lF d (eW t.an.l x.aa).1.ax x.ax) 10 (t.aa++[46]++x.aa)).length<=1:=by unfold b7; cases (!lF d (eW t.an.l x.aa).1.ax x.ax)<;>simp
  omega
theorem Su {α:Type}(g:α->Nat) (c:Nat) (l:List α):(l.map fun x=>g x+c).sum=(l.map g).sum+l.length*c:=by
 induction l with
 | nil=>simp
 | cons a r b=>simp only [List.map_cons,List.sum_cons,List.length_cons,b,Nat.succ_mul]; omega
theorem Sv (d:ai) (t f:ag):(mA d t f.an.l).length<=f.sz*(1+t.sz):=by
 have h1:=qB (Ss d t) f.an.l;rw [Su] at h1;have b:=f.bA;have g:=Sl.ja (f:=Z6.sz) f.an Z6.pos;have j:Sl.sz Z6.sz f.an=1+(f.an.l.map Z6.sz).sum:=rfl;have k:f.an.l.length*t.sz<=f.sz*t.sz:=Nat.mul_le_mul_right _ (by omega);rw [Nat.mul_add,Nat.mul_one];unfold mA;omega
noncomputable def lI (l:List ag) (n:Bs):Nat:=bif (bg l n).2 then(bg l n).1.sz else 0
theorem Sw (a:ag) (r:List ag) (n:Bs):lI (a::r) n=if a.aa=n then a.sz else lI r n:=by
 unfold lI bg;rw [List.find?_cons];by_cases h:a.aa=n
 ·rw [show (a.aa==n)=true by simpa using h,if_pos h]; rfl
 ·rw [show (a.aa==n)=false by simpa using h,if_neg h]
theorem JR (s:Bs) (c:Nat):∀g:List Bs,g.Nodup->(g.map fun n=>if s=n then c else 0).sum<=c
 | [],_=>Nat.zero_le _
 | n::r,h=>by
  obtain⟨h1,j⟩:=List.nodup_cons.1 h;rw [List.map_cons,List.sum_cons];by_cases f:s=n
  ·have h0:∀l:List Bs,n∉l->(l.map fun n=>if s=n then c else 0).sum=0:=fun l hl=>by
    induction l with
    | nil=>rfl
    | cons b q k =>
     rw [List.map_cons,List.sum_cons,if_neg (fun e=>hl (by rw [<- f,e]; exact .head _)),k (fun hq=>hl (.tail _ hq))]
   rw [if_pos f,h0 r h1]; omega
  ·rw [if_neg f]; have:=JR s c r j; omega
theorem JS:∀(l:List ag) (f:List Bs),f.Nodup->(f.map (lI l)).sum<=(l.map ag.sz).sum
 | [],f,_=>by
  have:∀q:List Bs,(q.map (lI [])).sum=0:=fun q=>by
   induction q with
   | nil=>rfl
   | cons b q g=>rw [List.map_cons,List.sum_cons,g]; rfl
  rw [this]; exact Nat.zero_le _
 | a::r,f,h=>by
  have h1:=JR a.aa a.sz f h;have k:=JS r f h;have j:∀q:List Bs,(q.map (lI (a::r))).sum<=(q.map fun n=>if a.aa=n then a.sz else 0).sum+(q.map (lI r)).sum:=fun q=>by
   induction q with
   | nil=>exact Nat.le_refl _
   | cons b q g =>
    simp only [List.map_cons,List.sum_cons];rw [Sw]
    split<;>omega
  have:=j f;rw [List.map_cons,List.sum_cons]; omega
def nT:List Bs->List Bs->List Bs
 | _,[]=>[]
 | s,n::r=>bif s.contains n then nT (s++[n]) r else n::nT (s++[n]) r
theorem EA:∀(l s:List Bs) (n:Bs),n∈nT s l->n∉s
 | [],_,_,h=>by cases h
 | a::r,s,n,h=>by
  rw [nT] at h;cases hc:s.contains a
  ·rw [hc,cond_false] at h;rcases List.mem_cons.1 h with rfl|h
   ·simpa using hc
   ·have:=EA r (s++[a]) n h;exact fun hn=>this (by simp [hn])
  ·rw [hc,cond_true] at h;have:=EA r (s++[a]) n h;exact fun hn=>this (by simp [hn])
theorem EB:∀(l s:List Bs),(nT s l).Nodup
 | [],_=>List.nodup_nil
 | a::r,s=>by
  rw [nT];cases s.contains a
  ·rw [cond_false,List.nodup_cons];exact⟨fun h=>EA r (s++[a]) a h (by simp),EB r _⟩
  ·rw [cond_true]; exact EB r _
theorem JT (d:ai) (t:ag):∀(l s:List Bs),(lH d t s l).length<=l.length+((nT s l).map (lI d.aj.l)).sum*(1+t.sz)
 | [],s=>by simp [lH]
 | n::r,s=>by
  have g:=JT d t r (s++[n]);rw [lH,List.length_append,nT];cases he:decide (gA d s n 2=0)
  ·simp only [Bool.not_false,cond_true,List.length_cons,List.length_nil];cases s.contains n
   ·simp only [cond_false,List.map_cons,List.sum_cons];have:((nT (s++[n]) r).map (lI d.aj.l)).sum*(1+t.sz)<=(lI d.aj.l n+((nT (s++[n]) r).map (lI d.aj.l)).sum)*(1+t.sz):=Nat.mul_le_mul_right _ (by omega);omega
   ·simp only [cond_true]; omega
  ·have he:=oD he;have hc:s.contains n=false:=by
    cases hc:s.contains n
    ·rfl
    ·unfold gA at he;rw [hc,Bool.and_true] at he;cases hz:decide (fh d n 2=0)
     ·rw [hz,cond_false] at he; rw [decide_eq_false_iff_not] at hz; exact absurd he hz
     ·rw [hz,cond_true] at he; cases he
   have f:(bg d.aj.l n).2=true:=by
    unfold gA at he;rw [hc,Bool.and_false,cond_false] at he;unfold fh at he;cases f:(bg d.aj.l n).2
    ·rw [f] at he;cases b:cW n
     ·rw [b] at he; cases he
     ·rw [b] at he; cases he
    ·rfl
   have b:lI d.aj.l n=(bg d.aj.l n).1.sz:=by unfold lI; rw [f]; rfl
   have h1:=Sv d t (bg d.aj.l n).1;rw [hc];simp only [Bool.not_true,cond_false,List.map_cons,List.sum_cons,List.length_cons,Nat.add_mul];rw [b]; omega
theorem JU (d:ai) (t:ag):∀(l:List Z8) (s:List Bs),(mB d t s l).length<=l.length
 | [],s=>Nat.le_refl _
 | m::r,s=>by
  have b:=JU d t r (s++[m.aa]);rw [mB,List.length_append,List.length_cons];have:(b7 (!decide (gA d s m.aa 1=0)) (gA d s m.aa 1) (t.aa++[46]++m.aa)).length<=1:=by unfold b7; cases (!decide (gA d s m.aa 1=0))<;>simp
  omega
theorem Sx (d:ai) (t:ag):(pn d t).length<=t.sz+(d.aj.l.map ag.sz).sum*(1+t.sz):=by
 have h0:=t.bA;have h1:=Sl.ja (f:=Bs.sz) t.aH (fun s=>Nat.succ_le_succ (Nat.zero_le _));have g:=Sl.ja (f:=Z8.sz) t.au Z8.pos;unfold pn;cases decide (t.ak=1)
 ·cases decide (t.ak=3)
  ·exact Nat.zero_le _
  ·simp only [cond_false,cond_true];have:=JU d t t.au.l []; omega
 ·simp only [cond_true];have j:=JT d t t.aH.l [];have b:=JS d.aj.l (nT [] t.aH.l) (EB _ _);have k:=Nat.mul_le_mul_right (1+t.sz) b;omega
theorem JV (S:Nat):∀l:List ag,(l.map fun t=>t.sz+S*(1+t.sz)).sum=(l.map ag.sz).sum+S*(l.length+(l.map ag.sz).sum)
 | []=>rfl
 | a::r=>by
  rw [List.map_cons,List.sum_cons,JV S r,List.map_cons,List.sum_cons,List.length_cons];simp only [Nat.mul_add,Nat.mul_one];omega
theorem Sy {d:ai}(j:d.sz<=1048576):(kI d).length<=3300000000000:=by
 have h0:=d.bA;have h1:Sl.sz ag.sz d.aj=1+(d.aj.l.map ag.sz).sum:=rfl;have k:=Sl.ja (f:=ag.sz) d.aj ag.pos;have b:=qB (Sx d) d.aj.l;rw [JV] at b;have g:(d.aj.l.map ag.sz).sum<=1048576:=by omega
 have m:(d.aj.l.map ag.sz).sum*(d.aj.l.length+(d.aj.l.map ag.sz).sum)<=1048576*(1048576+1048576):=Nat.mul_le_mul g (by omega);unfold kI;omega
theorem BB {d e:ai}(f:d.aj.l.length<=1048576) (he:e.aj.l.length<=1048576):∀(m:Nat) (a b:aL),a.aK.l.length<=1048576->b.aK.l.length<=1048576->jd e b.aa a.aa=jd d b.aa a.aa->a.aK.l.length+b.aK.l.length<m ->
  ∃v,kG m d a b=some v/\kG m e a b=some v
 | 0,_,_,_,_,_,h=>by omega
 | m+1,a,b,q,j,g,hm=>by
  rw [kG,kG];simp only [Ab.on,wy,uR q,uR j,y7 q,y7 j,oB];have w:=y2 a.aK;have y:=y2 b.aK;cases t:fo b.aK.l
  ·simp only [cond_false];cases k:fo a.aK.l
   ·simp only [cond_false];have last:∃v,(aY (!((a.aa==b.aa))) (s5 d a.aa b.aa) false fun p=>some (((a.aa==b.aa))||p))=some v/\(aY (!((a.aa==b.aa))) (s5 e a.aa b.aa) false fun p=>some (((a.aa==b.aa))||p))=some v:=by
     rw [Eu f,Eu he,g];cases (a.aa==b.aa)<;>exact⟨_,rfl,rfl⟩
    cases u:gQ (cn a.aK).l
    ·cases r:gQ (cn b.aK).l
     ·exact last
     ·exact⟨_,rfl,rfl⟩
    ·cases r:gQ (cn b.aK).l
     ·exact⟨_,rfl,rfl⟩
     ·have h1:=Bi u;have s:=Bi r;have z:((cn a.aK).l.drop 1).length<a.aK.l.length:=h1;have B:((cn b.aK).l.drop 1).length<b.aK.l.length:=s;obtain⟨v,hv,hw⟩:=BB f he m ⟨a.aa,⟨false,(cn a.aK).l.drop 1⟩⟩ ⟨b.aa,⟨false,(cn b.aK).l.drop 1⟩⟩ (by show ((cn a.aK).l.drop 1).length<=_; omega) (by show ((cn b.aK).l.drop 1).length<=_; omega) g (by show ((cn a.aK).l.drop 1).length+((cn b.aK).l.drop 1).length<m; omega)
      simp only [cond_true,Bool.or_self,Bool.and_self,aY,if_true,hv,hw,oB];exact⟨_,rfl,rfl⟩
   ·have h1:(cn a.aK).l.length<a.aK.l.length:=wB k;obtain⟨v,hv,hw⟩:=BB f he m ⟨a.aa,⟨false,(cn a.aK).l⟩⟩ b (by show (cn a.aK).l.length<=_; omega) j g (by show (cn a.aK).l.length+b.aK.l.length<m; omega);simp only [cond_true,hv,hw];exact⟨_,rfl,rfl⟩
  ·simp only [cond_true];cases k:fo a.aK.l
   ·exact⟨_,rfl,rfl⟩
   ·have h1:(cn a.aK).l.length<a.aK.l.length:=wB k;have s:(cn b.aK).l.length<b.aK.l.length:=wB t;obtain⟨v,hv,hw⟩:=BB f he m ⟨a.aa,⟨false,(cn a.aK).l⟩⟩ ⟨b.aa,⟨false,(cn b.aK).l⟩⟩ (by show (cn a.aK).l.length<=_; omega) (by show (cn b.aK).l.length<=_; omega) g (by show (cn a.aK).l.length+(cn b.aK).l.length<m; omega);simp only [aY,if_true,hv,hw,oB]
    exact⟨_,rfl,rfl⟩
def uU (a b:aL):Prop:=a.aa=b.aa/\a.aK.l=b.aK.l
theorem Sz {t:aL}(h:t.aK.l.length<=1048576):∃x,mu t=some (x,gQ (cn t.aK).l)/\(gQ (cn t.aK).l=true->uU (uI t) x):=by
 unfold mu;rw [Jj h];simp only [oB];cases hl:gQ (cn t.aK).l with
 | false=>exact⟨_,rfl,fun h=>by cases h⟩
 | true =>
  have:=y2 t.aK;simp only [Bool.not_true,cond_false];rw [uR h];simp only [oB];rw [Em (show (cn t.aK).l.length<=1048576 by omega) (Bh hl)];exact⟨_,rfl,fun _=>⟨rfl,rfl⟩⟩
theorem uU.lu {a b:aL}(h:uU a b):(cn a.aK).l=(cn b.aK).l:=by
 unfold cn; rw [h.2]; cases fo b.aK.l<;>simp [h.2]
theorem SA (l:List ag) (s:Bs):oL s l=lz s l:=by
 induction l with
 | nil=>rfl
 | cons a r b=>rw [oL,lz,b]; rfl
theorem EC (d:ai) (s:Bs):fe d s=bg d.aj.l s:=by
 rw [<- jV]; unfold fe fL; rw [SA]; all_goals rfl
theorem SB (l:List Z7) (s:Bs):lp s l=oZ s l:=by
 induction l with
 | nil=>rfl
 | cons a r b=>rw [lp,oZ,b]; rfl
theorem SC (t:Sl Z7) (s:Bs):jG t s=dz t.l s:=by
 rw [<- yW]; unfold jG o4; rw [SB]; all_goals rfl
theorem ED (l:List ag) (s:Bs) (h:(bg l s).2=false):(bg l s).1=ag.zero:=by
 unfold bg at *;cases e:l.find? (fun t=>t.aa==s) with
 | none=>rfl
 | some t=>rw [e] at h; cases h
theorem SD (d:ai) (s:Bs):rZ d s=qy d s:=by
 unfold rZ qy pe;simp only [on,EC,jV];show (cW s||_)=_;cases h:(bg d.aj.l s).2 with
 | true=>cases cW s<;>simp
 | false=>rw [ED _ _ h]; cases cW s<;>simp [ag.zero]
theorem EE (d:ai) (s:Bs):jH d s=iQ d s:=by
 unfold jH iQ pe;simp only [on,EC,jV,SD];cases h:(bg d.aj.l s).2 with
 | true=>cases qy d s<;>simp
 | false=>rw [ED _ _ h]; cases qy d s<;>simp [ag.zero]
theorem JW {d:ai}{s:Bs}(h:iQ d s=true) (f:cW s=false):(bg d.aj.l s).1.ak=4\/(bg d.aj.l s).1.ak=5:=by
 unfold iQ qy pe on at h;simp only [f,jV,Bool.not_false,cond_true,Bool.false_or] at h;by_cases b:(bg d.aj.l s).1.ak=4
 ·exact .inl b
 ·simp [b] at h; exact .inr h
def bB:Nat:=549755813888
def Rl:Nat->Z9->Z9->Prop
 | 0,_,_=>False
 | n+1,v,w=>v.ak=w.ak/\(v.bz=w.bz /\ -9223372036854775808<=v.bz/\v.bz<=9223372036854775807)/\v.br=w.br/\v.aW.l=w.aW.l/\(v.aW.nl=true->v.aW.l=[])/\v.aW.l.length<=bB/\v.aG.l.length<=bB /\
  (v.ak=3\/v.ak=4->v.bz=0/\v.aG.l=[]/\v.aW.l=[])/\aQ (Rl n) v.aG.l w.aG.l
theorem Rl.mono:∀{n m:Nat}{v w:Z9},n<=m->Rl n v w->Rl m v w
 | 0,_,_,_,_,h=>h.elim
 | n+1,0,_,_,hn,_=>by omega
 | n+1,m+1,v,w,hn,⟨a,b,c,d,e,f,g,i,k⟩=>⟨a,b,c,d,e,f,g,i,k.imp fun _ _ h=>Rl.mono (by omega) h⟩
theorem s8 {α:Type}{s r:Sl α}(h:s.l.length+r.l.length<=1099511627776):bf 80 s r=some ⟨s.nl&&r.l.isEmpty,s.l++r.l⟩:=by
 unfold bf; rw [if_pos];have:(s.l.length+r.l.length)*80<=1099511627776*80:=Nat.mul_le_mul_right _ h;unfold cC; omega
theorem SE {s:Sl Bs}(h:s.nl=true->s.l=[]) (hl:s.l.length<=bB):∃r,qC s=some r/\r.l=s.l/\(r.nl=true->r.l=[]):=by
 unfold qC;unfold bB at hl;cases hn:s.nl with
 | true=>exact⟨Sl.nil,rfl,(h hn).symm,fun _=>rfl⟩
 | false=>rw [cond_false,yp (by omega) (by simp; omega)]; exact⟨_,rfl,by simp,fun e=>by simp at e⟩
theorem EF:∀(n:Nat){v w:Z9},Rl n v w->∀m,2*n<=m->∃r,kL m v=some r/\Rl n r w
 | 0,_,_,h,_,_=>h.elim
 | n+1,v,w,⟨h1,E,F,G,H,z,B,I,p⟩,m,hm=>by
  obtain⟨m1,rfl⟩:∃m1,m=m1+1+1:=⟨m-2,by omega⟩;have hl:∀(l l':List Z9) (acc g:List Z9) (s:Sl Z9),aQ (Rl n) l l'->aQ (Rl n) acc g->s.l=acc->s.l.length+l.length<=bB->∃f:Sl Z9,nU (kL m1) l s=some f/\aQ (Rl n) f.l (g++l'):=by
   intro l l' acc g s hl;induction hl generalizing acc g s with
   | nil=>intro q e _; exact⟨s,rfl,by rw [e]; simpa using q⟩
   | @cons a b t t' J ht K =>
    intro q e C;obtain⟨r,hr,L⟩:=EF n J m1 (by omega);rw [nU];simp only [Ab.on,hr,oB];simp only [List.length_cons] at C;rw [s8 (by unfold bB at C; simp; omega),oB];obtain⟨f,u,j⟩:=K (acc++[r]) (g++[b]) ⟨s.nl&&[r].isEmpty,s.l++[r]⟩ (q.append (.cons L .nil)) (by simp [e]) (by simp; omega);exact⟨f,u,by simpa using j⟩
  obtain⟨f,u,j⟩:=hl v.aG.l w.aG.l [] [] Sl.nil p .nil rfl (by simpa [Sl.nil] using B);obtain⟨k,M,y,N⟩:=SE H z;rw [kL,wH,u,oB];simp only [Ab.on,oB,M];have hlen:=j.length;simp only [List.nil_append] at j hlen;refine⟨_,rfl,h1,E,F, ?_,N, ?_, ?_,fun hk=>?_,j⟩
  ·show k.l=_; rw [y]; exact G
  ·show k.l.length<=_; rw [y]; exact z
  ·show f.l.length<=_; rw [hlen,<- p.length]; exact B
  ·obtain⟨O,P,Q⟩:=I hk;have:f.l=[]:=List.eq_nil_of_length_eq_zero (by rw [hlen,<- p.length,P]; rfl);exact⟨O,this,by show k.l=[]; rw [y]; exact Q⟩
theorem JX:∀(n:Nat){v w:Z9},Rl n v w->∀m,2*n<=m->∃r,j3 m w=some r/\Rl n v r
 | 0,_,_,h,_,_=>h.elim
 | n+1,v,w,⟨h1,C,E,q,F,u,y,G,z⟩,m,hm=>by
  obtain⟨m1,rfl⟩:∃m1,m=m1+1+1:=⟨m-2,by omega⟩;have hl:∀(l l':List Z9) (acc f:List Z9) (s:Sl Z9),aQ (Rl n) l l'->aQ (Rl n) acc f->s.l=f->s.l.length+l'.length<=bB->∃g:Sl Z9,nV (j3 m1) l' s=some g/\aQ (Rl n) (acc++l) g.l:=by
   intro l l' acc f s hl;induction hl generalizing acc f s with
   | nil=>intro k e _; exact⟨s,rfl,by rw [e]; simpa using k⟩
   | @cons a b t t' H ht I =>
    intro k e B;obtain⟨r,hr,J⟩:=JX n H m1 (by omega);rw [nV];simp only [Ab.on,hr,oB];simp only [List.length_cons] at B;rw [s8 (by unfold bB at B; simp; omega),oB];obtain⟨g,p,j⟩:=I (acc++[a]) (f++[r]) ⟨s.nl&&[r].isEmpty,s.l++[r]⟩ (k.append (.cons J .nil)) (by simp [e]) (by simp; omega);exact⟨g,p,by simpa using j⟩
  obtain⟨g,p,j⟩:=hl v.aG.l w.aG.l [] [] Sl.nil z .nil rfl (by rw [<- z.length]; simpa [Sl.nil] using y);rw [j3,uV,p,oB];simp only [Ab.on,oB];rw [yp (by omega) (by rw [<- q]; unfold bB at u; simp; omega),oB];simp only [List.nil_append] at j;exact⟨_,rfl,h1,C,E,(show v.aW.l=[]++w.aW.l by simpa using q),F,u,y,G,j⟩
theorem JY (d:ai) (va:Z9) (li:Bool) (n f:Int) (hn:0<=n/\n<=4096) :
  (∃e c' k',e≠0/\s9 ⟨d,va,li,n⟩ f=some (e,c')/\lJ ⟨d,va,li,n,0⟩ f=some k'/\k'.cV=e) \/
  (f<=24/\n+1<=4096/\s9 ⟨d,va,li,n⟩ f=some (0,⟨d,va,li,n+1⟩)/\lJ ⟨d,va,li,n,0⟩ f=some ⟨d,va,li,n+1,0⟩):=by
 have g:cF n (1:Int)=some (n+1):=fQ (by omega);unfold s9 lJ fH;simp only [Ab.on,g,oB];by_cases h1:(24:Int)<f
 ·left
  simp only [h1,decide_true,cond_true,g,oB];by_cases b:(4096:Int)<n+1
  ·exact⟨5,_,_,by omega,rfl,by simp [b]; rfl,rfl⟩
  ·exact⟨5,_,_,by omega,rfl,by simp [b]; rfl,rfl⟩
 ·simp only [h1,decide_false,cond_false,g,oB];by_cases b:(4096:Int)<n+1
  ·left
   exact⟨4,_,_,by omega,by simp [b]; rfl,by simp [b]; rfl,rfl⟩
  ·right
   exact⟨by omega,by omega,by simp [b],by simp [b]⟩
def SF (n:Nat) (d:ai) (va:Z9) (li:Bool) (v:Z9) (p:Option (Int×Z1)) (q:Option (Z9×Z3)):Prop :=
 (∃e c' x k',e≠0/\p=some (e,c')/\q=some (x,k')/\k'.cV=e)\/(∃m x,0<=m/\m<=4096/\p=some (0,⟨d,va,li,m⟩)/\q=some (x,⟨d,va,li,m,0⟩)/\Rl n v x)
theorem JZ (a2:Int) (k:Z3->Z9->Int->Option (Z9×Z3)) (l:List Z9) (w:Z3) (x:Z9) (h:w.cV≠0):mI a2 k l w x=some (w,x):=by
 cases l with
 | nil=>rfl
 | cons a t=>rw [mI]; simp [h]
theorem J1:∀(n:Nat){v w:Z9},Rl n v w->∀(m:Nat) (d:ai) (va:Z9) (li:Bool) (c f:Int),n<=m->0<=c/\c<=4096->0<=f/\f<=1099511627776 ->
  SF n d va li v (mJ m ⟨d,va,li,c⟩ v f) (mK m ⟨d,va,li,c,0⟩ w f)
 | 0,_,_,h,_,_,_,_,_,_,_,_,_=>h.elim
 | n+1,v,w,⟨h1,H,O,I,P,J,K,Q,L⟩,m,d,va,li,c,f,hm,hc,hl=>by
  obtain⟨m,rfl⟩:∃m1,m=m1+1:=⟨m-1,by omega⟩;rw [mJ,mK];have hk:bf 16 ((Z9.mk w.ak w.bz w.br true [] Sl.nil).aW) w.aW=some ⟨true&&w.aW.l.isEmpty,[]++w.aW.l⟩:=by
   rw [yp (by omega) (by show ([]:List Bs).length+_<=_; rw [<- I]; unfold bB at J; simp; omega)]; rfl
  rcases JY d va li c f hc with ⟨e,c',k',he,s,p,M⟩|⟨Z,N,s,p⟩
  ·left
   rw [s,p,oB,oB,hk,oB,JZ _ _ _ _ _ (by rw [M]; exact he)];exact⟨e,c',_,k',he,by simp [he],rfl,M⟩
  ·rw [s,p,oB,oB,hk,oB];have R:∀(l l':List Z9) (acc q:List Z9) (x:Z9) (c:Int),aQ (Rl n) l l'->aQ (Rl n) acc q->x.aG.l=q->x.aG.l.length+l'.length<=bB->0<=c/\c<=4096 ->
     (∃e c' k' x',e≠0/\qD f (mJ m) l ⟨d,va,li,c⟩=some (Sum.inr (e,c'))/\mI f (mK m) l' ⟨d,va,li,c,0⟩ x=some (k',x')/\k'.cV=e) \/
     (∃c' x',0<=c'/\c'<=4096/\qD f (mJ m) l ⟨d,va,li,c⟩=some (Sum.inl ⟨d,va,li,c'⟩)/\mI f (mK m) l' ⟨d,va,li,c,0⟩ x=some (⟨d,va,li,c',0⟩,x') /\
      x'.ak=x.ak/\x'.bz=x.bz/\x'.br=x.br/\x'.aW=x.aW/\aQ (Rl n) (acc++l) x'.aG.l):=by
    intro l l' acc q x c S;induction S generalizing acc q x c with
    | nil=>intro u e r hc; right; exact⟨c,x,hc.1,hc.2,rfl,rfl,rfl,rfl,rfl,rfl,by rw [e]; simpa using u⟩
    | @cons a b t t' U ht W =>
     intro u e r hc;simp only [List.length_cons] at r;rw [qD,mI];simp only [Ab.on,fQ (show -9223372036854775808<=f+1/\f+1<=9223372036854775807 by omega),oB,decide_true,cond_true];rcases J1 n U m d va li c (f+1) (by omega) hc (by omega) with ⟨X,c',y,k',he,g,j,k⟩|⟨c',y,Y,N,g,j,k⟩
     ·left
      rw [g,j,oB,oB,s8 (by unfold bB at r; simp; omega),oB,JZ _ _ _ _ _ (by rw [k]; exact he)];exact⟨X,c',k',_,he,by simp [he],rfl,k⟩
     ·rw [g,j,oB,oB,s8 (by unfold bB at r; simp; omega),oB];have:=W (acc++[a]) (q++[y]) (Z9.mk x.ak x.bz x.br (x.aG.nl&&[y].isEmpty) (x.aG.l++[y]) x.aW) c' (u.append (.cons k .nil)) (by show x.aG.l++[y]=_; rw [e]) (by show (x.aG.l++[y]).length+_<=_; simp; omega) ⟨Y,N⟩;simp only [decide_true,Bool.not_true,cond_false]
      rcases this with ⟨p,c2,k2,z,g0,g1,g2,g3⟩|⟨c2,z,g1,g2,g3,g4,B,C,E,F,G⟩
      ·exact .inl ⟨p,c2,k2,z,g0,g1,g2,g3⟩
      ·exact .inr ⟨c2,z,g1,g2,g3,g4,B,C,E,F,by simpa using G⟩
   rcases R v.aG.l w.aG.l [] [] (Z9.mk w.ak w.bz w.br true [] ⟨true&&w.aW.l.isEmpty,[]++w.aW.l⟩) (c+1) L .nil rfl (by show ([]:List Z9).length+_<=_; rw [<- L.length]; simpa using K) (by omega) with
    ⟨e,c',k',x',he,g,j,k⟩|⟨c',x',g1,g2,g,j,B,C,E,F,G⟩
   ·left
    refine⟨e,c',x',k',he, ?_, ?_,k⟩
    ·simp only [decide_true,Bool.not_true,cond_false,g,oB]
    ·exact(congrArg (fun o=>Option.bind o _) j)
   ·right
    refine⟨c',x',g1,g2, ?_, ?_,by rw [B]; exact h1,⟨by rw [C]; exact H.1,H.2⟩,by rw [E]; exact O,by rw [F]; show _=[]++w.aW.l; simpa using I,P,J,K,Q,by simpa using G⟩
    ·simp only [decide_true,Bool.not_true,cond_false,g,oB,Ab.on]
    ·exact(congrArg (fun o=>Option.bind o _) j)
def zv:Z9:=Z9.mk 0 0 [] true [] Sl.nil
theorem wI:Rl 1 zv zv:=⟨rfl,⟨rfl,by decide,by decide⟩,rfl,rfl,fun _=>rfl,by show 0<=_; omega,by show 0<=_; omega,fun _=>⟨rfl,rfl,rfl⟩,.nil⟩
theorem EG {n:Nat}{v w:Z9}(h:Rl (n+1) v w) (hn:n<=1099511627776) (s:Bs):∃x y b,pz v s=some (x,b)/\mL w s=some (y,b)/\((b=true/\Rl n x y)\/(b=false/\x=zv/\y=zv)):=by
 obtain⟨h1,N,O,u,P,Q,R,S,m⟩:=h;have hk:∀(l:List Bs) (i:Nat),(∃j:Nat,jZ s l i=Sum.inr (j:Int)/\∀w:Z9,j6 w s l i=(bif decide (((w.aG.l.length:Nat):Int)<=((j:Nat):Int)) then some (Sum.inr (zv,false)) else((w.aG.l[j]?).bind fun z=>(EH z).bind fun B=>some (Sum.inr (B,true))))) \/
   (jZ s l i=Sum.inl ()/\∀w:Z9,j6 w s l i=some (Sum.inl ())):=by
  intro l;induction l with
  | nil=>intro i; exact .inr ⟨rfl,fun _=>rfl⟩
  | cons a r C =>
   intro i;rw [jZ];simp only [Ab.on];cases e:(s==a) with
   | true=>exact .inl ⟨i,rfl,fun w=>by rw [j6]; simp only [Ab.on,show (a==s)=true by rw [Bool.beq_comm]; exact e,cond_true]; rfl⟩
   | false =>
    have p:(a==s)=false:=by rw [Bool.beq_comm]; exact e
    rcases C (i+1) with ⟨j,f,g⟩|⟨f,g⟩
    ·exact .inl ⟨j,f,fun w=>by rw [j6]; simp only [Ab.on,p,cond_false]; exact g w⟩
    ·exact .inr ⟨f,fun w=>by rw [j6]; simp only [Ab.on,p,cond_false]; exact g w⟩
 have q:∀i:Int,nJ v.aW s=i->pz v s=(if v.ak=6/\0<=i/\i<v.aG.l.length then((dh v.aG.l i).bind fun E=>(qE E).bind fun F=>some (F,true)) else some (zv,false)):=by
  intro i hi;unfold pz;rw [hi];by_cases f:v.ak=6<;>by_cases g:i<0<;>by_cases G:(v.aG.l.length:Int)<=i<;>simp [Ab.on,f,g,G,zv]<;>try omega
  all_goals (rw [if_pos (by omega)])
 unfold mL;rw [<- h1,<- u];rcases hk v.aW.l 0 with ⟨j,f,g⟩|⟨f,g⟩
 ·have hi:nJ v.aW s=(j:Int):=by unfold nJ; rw [f]; rfl
  rw [q _ hi,g w,<- m.length];by_cases k:v.ak=6
  ·simp only [k,decide_true,Bool.not_true,cond_false,true_and];by_cases t:j<v.aG.l.length
   ·obtain⟨y,H,hr⟩:=m.get (List.getElem?_eq_getElem t);obtain⟨x',I,J⟩:=EF n hr F0 (by rw [gz]; omega);obtain⟨K,L,M⟩:=JX n J F0 (by rw [gz]; omega);have hq:decide (((v.aG.l.length:Nat):Int)<=(j:Int))=false:=dF (by omega);refine⟨x',K,true, ?_, ?_,.inl ⟨rfl,M⟩⟩
    ·rw [if_pos (by omega)];unfold dh; rw [if_pos (by omega)];rw [show ((j:Int).toNat)=j by omega,List.getElem?_eq_getElem t,oB];unfold qE; rw [I]; rfl
    ·rw [hq,cond_false,H,oB]; unfold EH; rw [L]; rfl
   ·have hq:decide (((v.aG.l.length:Nat):Int)<=(j:Int))=true:=dT (by omega);refine⟨zv,zv,false,by rw [if_neg (by omega)], ?_,.inr ⟨rfl,rfl,rfl⟩⟩;rw [hq]; rfl
  ·refine⟨zv,zv,false,by rw [if_neg (fun h=>k h.1)], ?_,.inr ⟨rfl,rfl,rfl⟩⟩;simp only [k,decide_false,Bool.not_false,cond_true]; rfl
 ·have hi:nJ v.aW s = -1:=by unfold nJ; rw [f]; rfl
  rw [q _ hi,g w];refine⟨zv,zv,false,by rw [if_neg (by omega)], ?_,.inr ⟨rfl,rfl,rfl⟩⟩;cases decide (v.ak=6)<;>rfl
theorem J2 {n:Nat}{va:Z9}(h:Rl (n+1) va va) (hn:n<=1099511627776) (d:ai) (li:Bool) (c:Int){m:Nat}{v w:Z9}(hv:Rl m v w) :
  ∃b,uW ⟨d,va,li,c⟩ v=some b/\qF ⟨d,va,li,c,0⟩ w=some b:=by
 cases m with
 | zero=>exact hv.elim
 | succ m =>
  obtain⟨h1,_,f,_⟩:=hv;unfold uW qF;simp only;rw [<- h1,<- f];obtain⟨x,y,b,g,j,_⟩:=EG h hn v.br;rw [g,j];cases li<;>cases hk:decide (v.ak=7)<;>exact⟨_,rfl,rfl⟩
theorem SG {n:Nat}(h:n<256):IntKind.wrap .u8 (n:Int)=(n:Int):=by
 have:(n:Int) % 256=n:=by omega
 simp [IntKind.wrap,IntKind.bits,IntKind.signed]; omega
theorem J3 (k:Nat):qb (⟨false,[((48+k:Nat):Int)]⟩:Sl Int)=[UInt8.ofNat (48+k)]:=by
 show [UInt8.ofNat ((48+k:Nat):Int).toNat]=_;rw [Int.toNat_natCast]
theorem SJ:∀(f u:Nat),u<10 ^ f->(Lib.decDigits u).length<=f+1:=by
 intro f;induction f with
 | zero =>
  intro u hu;have:u=0:=by simpa using hu
  subst this; rw [Lib.decDigits]; simp
 | succ f b =>
  intro u hu;rw [Lib.decDigits]
  split
  ·simp
  ·have:=b (u / 10) (by rw [Nat.pow_succ] at hu; omega);simp; omega
theorem BC {u:Nat}(h:u<=9223372036854775808):(Lib.decDigits u).length<=21:=SJ 20 u (by omega)
theorem SL {n:Int}(h0 : -9223372036854775808<=n) (h1:n<=9223372036854775807):(Lib.itoa n).length<=22:=by
 unfold Lib.itoa
 split
 ·have:=BC (u:=n.natAbs) (by omega); simp; omega
 ·have:=BC (u:=n.toNat) (by omega); omega
theorem SM:∀(f u:Nat),u<10 ^ f->u<=9223372036854775808->f<=30->∀m,f+1<=m->qG m (-(u:Int))=some (Lib.decDigits u):=by
 intro f;induction f with
 | zero =>
  intro u hu g j m hm;have:u=0:=by simpa using hu
  subst this;obtain⟨m,rfl⟩:∃k,m=k+1:=⟨m-1,by omega⟩;rw [Lib.decDigits]; rfl
 | succ f l =>
  intro u hu g j m hm;obtain⟨m,rfl⟩:∃k,m=k+1:=⟨m-1,by omega⟩;have h1:Int.tmod (-(u:Int)) 10 = -((u % 10:Nat):Int):=by rw [Int.neg_tmod]; rfl
  have p:Int.tdiv (-(u:Int)) 10 = -((u / 10:Nat):Int):=by rw [Int.neg_tdiv]; rfl
  rw [qG,h1,p,HM (by omega),oB];have q:(48:Int) - -((u % 10:Nat):Int)=((48+u % 10:Nat):Int):=by omega
  rw [q,SG (by omega),Lib.decDigits];by_cases b:u<10
  ·rw [dif_pos b,show decide ((-10:Int) < -(u:Int))=true from dT (by omega),cond_true,Nat.mod_eq_of_lt b,J3]
  ·rw [dif_neg b,show decide ((-10:Int) < -(u:Int))=false from dF (by omega),cond_false,IntWalk.i64_in _ (by omega),l (u / 10) (by rw [Nat.pow_succ] at hu; omega) (by omega) (by omega) m (by omega),oB];have hl:=BC (u:=u / 10) (by omega);rw [J3,dI (by simp; omega),oB]
theorem SN {n:Int}(h0 : -9223372036854775808<=n) (h1:n<=9223372036854775807):wJ n=some (Lib.itoa n):=by
 unfold wJ EI;have b:∀u:Nat,u<=9223372036854775808->qG F0 (-(u:Int))=some (Lib.decDigits u):=fun u hu=>SM 20 u (by omega) hu (by omega) F0 (by rw [gz]; omega);by_cases hn:n<0
 ·obtain⟨u,rfl⟩:∃u:Nat,n = -(u:Int):=⟨n.natAbs,by omega⟩;rw [show decide (-(u:Int)<0)=true from dT hn,cond_true,b u (by omega),oB];have hl:=BC (u:=u) (by omega);rw [dI (by simp; omega),oB];unfold Lib.itoa; rw [if_pos hn,show (-(u:Int)).natAbs=u by omega]; rfl
 ·obtain⟨u,rfl⟩:∃u:Nat,n=(u:Int):=⟨n.natAbs,by omega⟩;rw [show decide ((u:Int)<0)=false from dF hn,cond_false,IntWalk.i64_in _ (by omega),show (0:Int)-(u:Int) = -(u:Int) by omega,b u (by omega),oB];unfold Lib.itoa; rw [if_neg hn,Int.toNat_natCast]
theorem SO {n:Int}(h0 : -9223372036854775808<=n) (h1:n<=9223372036854775807):wK n=some (Lib.itoa n):=by
 unfold wK J4 BD;rw [if_pos ⟨h0,h1,by have:=SL h0 h1; unfold fJ; omega⟩]; rfl
def zg (s:Bs):Z9:=Z9.mk 3 0 s true [] Sl.nil
theorem SP (s:Bs):Rl 1 (zg s) (zg s):=⟨rfl,⟨rfl,by show _<=(0:Int); decide,by show (0:Int)<=_; decide⟩,rfl,rfl,fun _=>rfl,by show 0<=_; omega,by show 0<=_; omega,fun _=>⟨rfl,rfl,rfl⟩,.nil⟩
def BE (n:Nat) (d:ai) (va:Z9) (li:Bool) (c:Int) (p:Option (Z9×Int)) (q:Option (Z9×Z3)):Prop :=
 (∃x y k',p=some (x,23)/\q=some (y,k')/\k'.cV=23)\/(∃x y,p=some (x,0)/\q=some (y,⟨d,va,li,c,0⟩)/\Rl n x y)
theorem wL (d:ai) (va:Z9) (li:Bool) (c e:Int):fH ⟨d,va,li,c,0⟩ e=⟨d,va,li,c,e⟩:=rfl
theorem SQ {n:Nat}{v w:Z9}(h:Rl (n+1) v w) (d:ai) (va:Z9) (li:Bool) (c:Int) (s:Bs) (m:cW s=true) :
  BE (n+1) d va li c (s_ ⟨d,va,li,c⟩ s v) (kO ⟨d,va,li,c,0⟩ s w):=by
 obtain⟨h1,l,z,_⟩:=id h;have q:wJ v.bz=some (Lib.itoa v.bz):=SN l.2.1 l.2.2;have r:wK v.bz=some (Lib.itoa v.bz):=SO l.2.1 l.2.2;have t:BF (Lib.itoa v.bz)=zg (Lib.itoa v.bz):=rfl;have u:Rl (n+1) (zg (Lib.itoa v.bz)) (zg (Lib.itoa v.bz)):=(SP _).mono (by omega);unfold s_ kO;rw [<- h1,<- l.1];simp only [Ab.on,wL,q,r,t,oB]
 unfold cW at m;cases b:(s==([73,110,116]:Bs))
 ·cases f:(s==([83,116,114,105,110,103]:Bs))
  ·cases g:(s==([66,111,111,108,101,97,110]:Bs))
   ·cases j:(s==([73,68]:Bs))
    ·rw [b,f,g,j] at m; cases m
    ·by_cases k2:v.ak=2
     ·simp only [k2,decide_true,cond_true,cond_false,Bool.false_and,Bool.and_true,Bool.true_and,oB];exact .inr ⟨_,_,rfl,rfl,u⟩
     ·by_cases k:v.ak=3
      ·simp [k];exact .inr ⟨_,_,rfl,rfl,h⟩
      ·simp [k2,k];exact .inl ⟨_,_,_,rfl,rfl,rfl⟩
   ·by_cases p:v.ak=1
    ·simp [p];exact .inr ⟨_,_,rfl,rfl,h⟩
    ·simp [p];have j:(s==([73,68]:Bs))=false:=by
      rw [beq_iff_eq] at g; rw [g]; rfl
     simp [j];exact .inl ⟨_,_,_,rfl,rfl,rfl⟩
  ·have g:(s==([66,111,111,108,101,97,110]:Bs))=false:=by rw [beq_iff_eq] at f; rw [f]; rfl
   have j:(s==([73,68]:Bs))=false:=by rw [beq_iff_eq] at f; rw [f]; rfl
   by_cases k:v.ak=3
   ·simp [k];exact .inr ⟨_,_,rfl,rfl,h⟩
   ·simp [k,g,j];exact .inl ⟨_,_,_,rfl,rfl,rfl⟩
 ·have f:(s==([83,116,114,105,110,103]:Bs))=false:=by rw [beq_iff_eq] at b; rw [b]; rfl
  have g:(s==([66,111,111,108,101,97,110]:Bs))=false:=by rw [beq_iff_eq] at b; rw [b]; rfl
  have j:(s==([73,68]:Bs))=false:=by rw [beq_iff_eq] at b; rw [b]; rfl
  by_cases k2:v.ak=2<;>by_cases k:(-2147483648:Int)<=v.bz<;>by_cases y:v.bz<(2147483648:Int)<;>simp [k2,k,y,f,g,j];all_goals first
   | exact .inr ⟨_,_,rfl,rfl,h⟩
   | exact .inl ⟨_,_,_,rfl,rfl,rfl⟩
theorem contains_eq (b:Sl Z8) (p:Z8->Bool):s6 b p=b.l.any p:=by
 have aux:∀(l:List Z8) (i:Nat),(l.any p=true->∃j:Nat,nN p l i=Sum.inr (j:Int))/\(l.any p=false->nN p l i=Sum.inl ()):=by
  intro l;induction l with
  | nil=>intro i; exact⟨fun h=>(by cases h),fun _=>rfl⟩
  | cons a r f =>
   intro i;rw [nN,List.any_cons];simp only [Ab.on];cases p a with
   | true=>exact⟨fun _=>⟨i,rfl⟩,fun h=>(by cases h)⟩
   | false=>simpa using f (i+1)
 unfold s6 zd;simp only [Ab.on];cases h:b.l.any p with
 | true=>obtain⟨j,e⟩:=(aux b.l 0).1 h; rw [e]; exact dT (by show (0:Int)<=(j:Int); omega)
 | false=>rw [(aux b.l 0).2 h]; rfl
theorem SR (w:Z3) (x:Z9) (l:List Z8):kP w x l=(if l.any (fun m=>m.aa==x.br) then Sum.inr (Z9.mk 4 0 x.br true [] Sl.nil,w) else Sum.inl ()):=by
 induction l with
 | nil=>rfl
 | cons a r b =>
  rw [kP,List.any_cons];simp only [Ab.on];cases a.aa==x.br with
  | true=>rfl
  | false=>simpa using b
theorem SS {s:Bs}(b:cW s=false):(s==([73,110,116]:Bs))=false/\(s==([83,116,114,105,110,103]:Bs))=false/\(s==([66,111,111,108,101,97,110]:Bs))=false/\(s==([73,68]:Bs))=false:=by
 unfold cW at b;simp only [Bool.or_eq_false_iff] at b;exact⟨b.1.1.1,b.1.1.2,b.1.2,b.2⟩
theorem SU {n:Nat}{v w:Z9}(h:Rl (n+1) v w) (d:ai) (va:Z9) (li:Bool) (c:Int) (s:Bs) (k:cW s=false) :
  BE (n+1) d va li c (s_ ⟨d,va,li,c⟩ s v) (some (kQ ⟨d,va,li,c,0⟩ (bg d.aj.l s).1 w)):=by
 obtain⟨p,q,r,t⟩:=SS k;obtain⟨h1,u,y,G,z,B,C,E,H⟩:=id h;unfold s_ kQ zh;rw [<- h1];simp only [p,q,r,t,Ab.on,wL,cond_false,jV,contains_eq,SR,<- y];have uX:∀x:Z9,x.ak=4->x.bz=v.bz->x.br=v.br->x.aG.l=v.aG.l->x.aW=v.aW->(v.ak=3\/v.ak=4)->Rl (n+1) x (Z9.mk 4 0 v.br true [] Sl.nil):=by
  intro x a b c' j e hk;obtain⟨g1,g2,g3⟩:=E hk;refine⟨a,⟨by rw [b,g1]; rfl,by rw [b]; exact u.2⟩,c', ?_, ?_, ?_, ?_,fun _=>⟨by rw [b,g1],by rw [j,g2],by rw [e,g3]⟩, ?_⟩
  ·rw [e,g3]; rfl
  ·rw [e]; exact z
  ·rw [e]; exact B
  ·rw [j]; exact C
  ·rw [j,g2]; exact .nil
 by_cases f:v.ak=4
 ·simp only [f,decide_true,show decide ((4:Int)=3)=false from rfl,Bool.false_and,cond_false,cond_true,Bool.true_and,Bool.true_or];cases F:(bg d.aj.l s).1.au.l.any (fun m=>m.aa==v.br) with
  | true=>exact .inr ⟨_,_,rfl,rfl,uX v f rfl rfl rfl rfl (.inr f)⟩
  | false=>exact .inl ⟨_,_,_,rfl,rfl,rfl⟩
 ·by_cases g:v.ak=3
  ·cases li with
   | true =>
    simp only [g,decide_true,show decide ((3:Int)=4)=false from rfl,Bool.not_true,Bool.and_false,cond_false,Bool.false_and,Bool.false_or,Bool.not_false,cond_true];exact .inl ⟨_,_,_,rfl,rfl,rfl⟩
   | false =>
    simp only [g,decide_true,Bool.not_false,Bool.and_true,cond_true,Bool.or_true];have hk:(Z9.mk 4 v.bz v.br v.aG.nl v.aG.l v.aW).ak=4:=rfl;have ht:(Z9.mk 4 v.bz v.br v.aG.nl v.aG.l v.aW).br=v.br:=rfl;simp only [hk,ht,decide_true,cond_true,Bool.true_and];cases F:(bg d.aj.l s).1.au.l.any (fun m=>m.aa==v.br) with
    | true=>exact .inr ⟨_,_,rfl,rfl,uX _ rfl rfl rfl rfl rfl (.inl g)⟩
    | false=>exact .inl ⟨_,_,_,rfl,rfl,rfl⟩
  ·simp only [g,f,decide_false,Bool.false_and,cond_false,Bool.not_false,cond_true,Bool.or_false];exact .inl ⟨_,_,_,rfl,rfl,rfl⟩
def BG (n:Nat) (a1:aL) (a3:Int) (m:Z1) (f:Z9):Option (Z9×Int×Z1) :=
 (s9 m a3).bind fun b=>bif (!decide (b.1=(0:Int))) then(some (zv,b.1,b.2)) else(bif (decide (f.ak=(0:Int))) then(bif iP a1 then(some (zv,(23:Int),b.2)) else(some (zv,(0:Int),b.2))) else((sK a1).bind fun k=>bif k.2 then(((uY n) b.2 k.1 f a3).bind fun g=>some (g.1,g.2.1,g.2.2)) else(bif (((fL b.2.Fd a1.aa).2&&(!(bif (fL b.2.Fd a1.aa).2 then cW a1.aa else false)))&&(decide ((fL b.2.Fd a1.aa).1.ak=(5:Int)))) then(((uZ n) b.2 (fL b.2.Fd a1.aa).1 f a3).bind fun j=>some (j.1,j.2.1,j.2.2)) else((s_ b.2 a1.aa f).bind fun l=>some (l.1,l.2,b.2)))))
theorem SV (n:Nat) (a0:Z1) (a1:aL) (a2:Z9) (a3:Int):fR (n+1) a0 a1 a2 a3 =
  bif (!iQ a0.Fd a1.aa) then(some (zv,(10:Int),a0)) else(bif ((decide (a2.ak=(7:Int)))&&a0.oK) then((pz a0.fc a2.br).bind fun b=>bif (!decide (b.1.ak=(0:Int))) then((EJ a0 b.1 a3).bind fun f=>bif (!decide (f.1=(0:Int))) then(some (zv,f.1,f.2)) else(some (b.1,(0:Int),f.2))) else(BG n a1 a3 a0 b.1)) else(BG n a1 a3 a0 a2)):=by
 rw [fR]; rfl
def BH (n:Nat) (a1:aL) (a3:Int) (m:Z3) (f:Z9):Option (Z9×Z3) :=
 (lJ m a3).bind fun b=>bif (!decide (b.cV=(0:Int))) then(some (zv,b)) else(bif (decide (f.ak=(0:Int))) then(some (zv,bif iv a1 then fH b (23:Int) else b)) else((mu a1).bind fun g=>bif g.2 then(((kR n) b g.1 f a3).bind fun j=>some (j.1,j.2)) else(bif iO a1.aa then((kO b a1.aa f).bind fun k=>some (k.1,k.2)) else(bif (decide ((fe b.Fd a1.aa).1.ak=(4:Int))) then(some ((kQ b (fe b.Fd a1.aa).1 f).1,(kQ b (fe b.Fd a1.aa).1 f).2)) else(((kS n) b (fe b.Fd a1.aa).1 f a3).bind fun l=>some (l.1,l.2))))))
theorem J5 (n:Nat) (a0:Z3) (a1:aL) (a2:Z9) (a3:Int):eO (n+1) a0 a1 a2 a3 =
  bif (!jH a0.Fd a1.aa) then(some (zv,fH a0 (10:Int))) else(bif (a0.fG&&(decide (a2.ak=(7:Int)))) then((mL a0.fc a2.br).bind fun b=>bif (!decide (b.1.ak=(0:Int))) then((EK a0 b.1 a3).bind fun f=>some (f.1,f.2)) else(BH n a1 a3 a0 zv)) else(BH n a1 a3 a0 a2)):=by
 rw [eO]; rfl
def lK (M:Nat) (d:ai) (va:Z9) (li:Bool) (p:Option (Z9×Int×Z1)) (q:Option (Z9×Z3)):Prop :=
 (∃e x c' y k',e≠0/\p=some (x,e,c')/\q=some (y,k')/\k'.cV=e)\/(∃m x y,0<=m/\m<=4096/\p=some (x,0,⟨d,va,li,m⟩)/\q=some (y,⟨d,va,li,m,0⟩)/\Rl M x y)
theorem lK.eta {M:Nat}{d:ai}{va:Z9}{li:Bool}{p:Option (Z9×Int×Z1)}{q:Option (Z9×Z3)}(h:lK M d va li p q) :
  lK M d va li (p.bind fun x=>some (x.1,x.2.1,x.2.2)) (q.bind fun x=>some (x.1,x.2)):=by
 have b:(p.bind fun x=>some (x.1,x.2.1,x.2.2))=p:=by cases p<;>rfl
 have f:(q.bind fun x=>some (x.1,x.2))=q:=by cases q<;>rfl
 rw [b,f]; exact h
theorem BE.J6 {n M:Nat}{d:ai}{va:Z9}{li:Bool}{c:Int}{p:Option (Z9×Int)}{q:Option (Z9×Z3)}(h:BE n d va li c p q) (hc:0<=c/\c<=4096) (hm:n<=M) :
  lK M d va li (p.bind fun x=>some (x.1,x.2,(⟨d,va,li,c⟩:Z1))) q:=by
 rcases h with ⟨x,y,k',b,f,g⟩|⟨x,y,b,f,g⟩
 ·exact .inl ⟨23,x,_,y,k',by decide,by rw [b]; rfl,f,g⟩
 ·exact .inr ⟨c,x,y,hc.1,hc.2,by rw [b]; rfl,f,g.mono hm⟩
def nW (N:Nat) (x:Z7):Prop:=ep x.ax.aK/\(x.b_=true->Rl N x.dm x.dm)
def lM (N:Nat) (t:ag):Prop:=t.ay.l.length<=1048576/\∀x∈t.ay.l,nW N x
def EL (N M:Nat) (d:ai) (n m:Nat) (b:Int):Prop:=∀(va:Z9) (li:Bool) (c:Int) (t t':aL) (v w:Z9),Rl (N+1) va va->0<=c/\c<=4096->ep t.aK->uU t t'->Rl N v w ->
 lK M d va li (uY n ⟨d,va,li,c⟩ t v b) (kR m ⟨d,va,li,c,0⟩ t' w b)
def EM (N M:Nat) (d:ai) (n m:Nat) (b:Int):Prop:=∀(va:Z9) (li:Bool) (c:Int) (t:ag) (v w:Z9),Rl (N+1) va va->0<=c/\c<=4096->lM N t->Rl N v w ->
 lK M d va li (uZ n ⟨d,va,li,c⟩ t v b) (kS m ⟨d,va,li,c,0⟩ t w b)
theorem J7 {N M n m:Nat}{d:ai}{b:Int}(q:N<=M) (B:1<=M) (C:∀s,lM N (bg d.aj.l s).1) (hl:b<=24->EL N M d n m b) (E:b<=24->EM N M d n m b){va:Z9}{li:Bool}{c:Int}{t t':aL}{v w:Z9}
  (r:Rl (N+1) va va) (hc:0<=c/\c<=4096) (ht:ep t.aK) (he:uU t t') (hk:v.ak=w.ak) (hv:v.ak≠0->Rl N v w) (hi:iQ d t.aa=true) :
  lK M d va li (BG n t b ⟨d,va,li,c⟩ v) (BH m t' b ⟨d,va,li,c,0⟩ w):=by
 unfold BG BH;rcases JY d va li c b hc with ⟨e,c',k',he,j,f,u⟩|⟨y,K,j,f⟩
 ·rw [j,f];exact .inl ⟨e,zv,c',zv,k',he,by simp [he],by simp [u,he],u⟩
 ·rw [j,f];simp only [oB,decide_true,Bool.not_true,cond_false];rw [<- hk,wy,wu,<- he.2];by_cases k:v.ak=0
  ·simp only [k,decide_true,cond_true,wL];cases fo t.aK.l with
   | true=>exact .inl ⟨23,_,_,_,_,by decide,rfl,rfl,rfl⟩
   | false=>exact .inr ⟨c+1,_,_,by omega,by omega,rfl,rfl,wI.mono B⟩
  ·have hv:=hv k;simp only [k,decide_false,cond_false];have hlen:t'.aK.l.length<=1048576:=by rw [<- he.2]; exact ht.2
   obtain⟨x,ex,hx⟩:=Sz (t:=t') hlen;rw [ex,Ee ht,<- he.lu];simp only [oB];cases F:gQ (cn t.aK).l with
   | true =>
    simp only [cond_true];refine(hl y va li (c+1) _ _ v w r (by omega) (Ed ht) ?_ hv).eta;have h1:=hx (by rw [<- he.lu]; exact F);exact⟨he.1.trans h1.1,by rw [<- h1.2]; show (cn t.aK).l.drop 1=(cn t'.aK).l.drop 1; rw [he.lu]⟩
   | false =>
    simp only [cond_false];rw [EC,jV,<- he.1];have G:iO t.aa=cW t.aa:=rfl;rw [G];obtain⟨N,rfl⟩:∃H,N=H+1:=by cases N with|zero=>exact hv.elim|succ N=>exact⟨N,rfl⟩
    cases g:cW t.aa with
    | true =>
     have:((bg d.aj.l t.aa).2&&!(bif (bg d.aj.l t.aa).2 then true else false))=false:=by cases (bg d.aj.l t.aa).2<;>rfl
     simp only [this,Bool.false_and,cond_false,cond_true];have:=(SQ hv d va li (c+1) t.aa g).J6 (M:=M) (by omega) q;have f:((kO ⟨d,va,li,c+1,0⟩ t.aa w).bind fun z=>some (z.1,z.2))=kO ⟨d,va,li,c+1,0⟩ t.aa w:=by
      cases kO ⟨d,va,li,c+1,0⟩ t.aa w<;>rfl
     rw [f]; exact this
    | false =>
     simp only [cond_false];have p:(bg d.aj.l t.aa).2=true:=by
      cases p:(bg d.aj.l t.aa).2 with
      | true=>rfl
      | false =>
       have:=JW hi g;rw [ED _ _ p] at this;rcases this with h|h<;>cases h
     rw [p];rcases JW hi g with I|J
     ·simp only [I,decide_true,show decide ((4:Int)=5)=false from rfl,Bool.and_false,cond_false,cond_true];exact(SU hv d va li (c+1) t.aa g).J6 (M:=M) (by omega) q
     ·simp only [J,decide_true,show decide ((5:Int)=4)=false from rfl,cond_true,cond_false,Bool.not_false,Bool.and_true,Bool.and_self];exact(E y va li (c+1) _ v w r (by omega) (C _) hv).eta
theorem SX {M:Nat}{x y r f:Z9}{b b':Bool}(h:Rl (M+1) x y) (hr:Rl M r f) (g:x.ak≠3) (j:x.ak≠4) (k:x.aG.l.length+1<=bB) :
  Rl (M+1) (Z9.mk x.ak x.bz x.br b (x.aG.l++[r]) x.aW) (Z9.mk y.ak y.bz y.br b' (y.aG.l++[f]) y.aW):=by
 obtain⟨a1,a2,a3,a4,a5,m,p,q,a9⟩:=h;exact⟨a1,a2,a3,a4,a5,m,by show (x.aG.l++[r]).length<=bB; simpa using k,fun h=>(h.elim g j).elim,a9.append (.cons hr .nil)⟩
def qH (N M:Nat) (d:ai) (n m:Nat) (b:Int):Prop:=∀(va:Z9) (li:Bool) (c:Int) (t t':aL) (v w:Z9),Rl (N+1) va va->0<=c/\c<=4096->ep t.aK->uU t t'->Rl N v w ->
 lK M d va li (fR n ⟨d,va,li,c⟩ t v b) (eO m ⟨d,va,li,c,0⟩ t' w b)
theorem SY (a1:aL) (a3:Int) (k:Z3->aL->Z9->Int->Option (Z9×Z3)) (l:List Z9) (w:Z3) (x:Z9) (h:w.cV≠0):js a1 a3 k l w x=some (w,x):=by
 cases l with
 | nil=>rfl
 | cons a t=>rw [js]; simp [h]
theorem SZ {N M n m:Nat}{d:ai}{f:Int}(bQ:qH N M d n m (f+1)) (G:0<=f/\f<=1000){va:Z9}{li:Bool}{t t':aL}(z:Rl (N+1) va va) (ht:ep t.aK) (he:uU t t') :
  ∀(l l':List Z9) (c:Int) (x y:Z9),aQ (Rl N) l l'->0<=c/\c<=4096->Rl (M+1) x y->x.ak≠3->x.ak≠4->x.aG.l.length+l.length<=bB ->
   (∃e c' k' x' g,e≠0/\pE t f (fR n) l ⟨d,va,li,c⟩ x=some (Sum.inr (x',e,c'))/\js t' f (eO m) l' ⟨d,va,li,c,0⟩ y=some (k',g)/\k'.cV=e) \/
   (∃c' x' g,0<=c'/\c'<=4096/\pE t f (fR n) l ⟨d,va,li,c⟩ x=some (Sum.inl (⟨d,va,li,c'⟩,x'))/\js t' f (eO m) l' ⟨d,va,li,c,0⟩ y=some (⟨d,va,li,c',0⟩,g)/\Rl (M+1) x' g):=by
 intro l l' c x y hl;induction hl generalizing c x y with
 | nil=>intro hc hx _ _ _; exact .inr ⟨c,x,y,hc.1,hc.2,rfl,rfl,hx⟩
 | @cons a b tl H B I C =>
  intro hc hx u v k;simp only [List.length_cons] at k;have J:y.aG.l.length=x.aG.l.length:=hx.2.2.2.2.2.2.2.2.length.symm;rw [pE,js];simp only [Ab.on,fQ (show -9223372036854775808<=f+1/\f+1<=9223372036854775807 by omega),oB,decide_true,cond_true];have E:∀r:Z9,bf 80 x.aG (⟨false,[r]⟩:Sl Z9)=some ⟨x.aG.nl&&[r].isEmpty,x.aG.l++[r]⟩:=fun r=>s8 (by unfold bB at k; simp; omega)
  have w:∀r:Z9,bf 80 y.aG (⟨false,[r]⟩:Sl Z9)=some ⟨y.aG.nl&&[r].isEmpty,y.aG.l++[r]⟩:=fun r=>s8 (by unfold bB at k; simp; omega);rcases bQ va li c t t' a b z hc ht he B with ⟨e,r,c',F,k',p,q,s,j⟩|⟨c',r,F,g1,g2,q,s,j⟩
  ·left
   rw [q,s,oB,oB,w,oB,SY _ _ _ _ _ _ (by rw [j]; exact p)];exact⟨e,c',k',_,_,p,by simp [p]; rfl,rfl,j⟩
  ·rw [q,s,oB,oB,E,w,oB,oB];simp only [decide_true,Bool.not_true,cond_false];exact C c' _ _ ⟨g1,g2⟩ (SX hx j u v (by omega)) u v (by show (x.aG.l++[r]).length+_<=bB; simp; omega)
theorem S0 {N M n m:Nat}{d:ai}{b:Int}(bQ:qH N M d n m (b+1)) (z:0<=b/\b<=1000):EL N (M+1) d (n+1) (m+1) b:=by
 intro va li c t t' v w B hc ht he hv;have h0:Rl (M+1) (Z9.mk 5 0 [] true [] Sl.nil) (Z9.mk 5 0 [] true [] Sl.nil) :=
  ⟨rfl,⟨rfl,by show _<=(0:Int); decide,by show (0:Int)<=_; decide⟩,rfl,rfl,fun _=>rfl,by show 0<=_; omega,by show 0<=_; omega,fun h=>(by rcases h with h|h<;>cases h),.nil⟩
 have main:∀(s g:Sl Z9),aQ (Rl N) s.l g.l->s.l.length<=bB->lK (M+1) d va li
   ((pE t b (fR n) s.l ⟨d,va,li,c⟩ (Z9.mk 5 0 [] true [] Sl.nil)).bind fun C=>match C with|Sum.inl r=>(on ((r.1,r.2)) fun f=>some (f.2,(0:Int),f.1))|Sum.inr E=>(some E))
   ((js t' b (eO m) g.l ⟨d,va,li,c,0⟩ (Z9.mk 5 0 [] true [] Sl.nil)).bind fun u=>on ((u.1,u.2)) fun f=>some (f.2,f.1)):=by
  intro s g F H;rcases SZ bQ z (li:=li) B ht he s.l g.l c _ _ F hc h0 (by decide) (by decide) (by show 0+_<=_; omega) with ⟨e,c',k',x',j,G,k,p,q⟩|⟨c',x',j,g1,g2,k,p,q⟩
  ·rw [k,p]; exact .inl ⟨e,x',c',j,k',G,rfl,rfl,q⟩
  ·rw [k,p]; exact .inr ⟨c',x',j,g1,g2,rfl,rfl,q⟩
 rw [uY,kR];have hk:v.ak=w.ak:=by cases N with|zero=>exact hv.elim|succ N=>exact hv.1
 rw [<- hk];by_cases y:v.ak=5
 ·simp only [y,decide_true,Bool.not_true,cond_false,cond_true];cases N with
  | zero=>exact hv.elim
  | succ N=>exact main v.aG w.aG (hv.2.2.2.2.2.2.2.2.imp fun _ _ h=>h.mono (by omega)) hv.2.2.2.2.2.2.1
 ·simp only [y,decide_false,Bool.not_false,cond_false,cond_true];exact main ⟨false,[v]⟩ ⟨false,[w]⟩ (.cons hv .nil) (by show 1<=bB; unfold bB; omega)
def EN (N M:Nat) (d:ai) (n m:Nat) (b:Int):Prop:=∀(va:Z9) (li:Bool) (c:Int) (x:Z7),0<=c/\c<=4096->nW N x->x.b_=true ->
 lK M d va li (jt n ⟨d,va,li,c⟩ x b) (iw m ⟨d,va,li,c,0⟩ x.ax x.dm b)
theorem S3 {N M n m:Nat}{d:ai}{k:Int}(bQ:qH N M d n m k):EN N M d (n+1) (m+1) k:=by
 intro va li c x hc hx hh;rw [jt,iw];rcases bQ zv true c x.ax x.ax x.dm x.dm (wI.mono (by omega)) hc hx.1 ⟨rfl,rfl⟩ (hx.2 hh) with ⟨e,r,c',g,k',l,b,f,j⟩|⟨c',r,g,g1,g2,b,f,j⟩
 ·unfold zv at b f;rw [b,f];exact .inl ⟨e,r,_,g,_,l,rfl,rfl,j⟩
 ·unfold zv at b f;rw [b,f];exact .inr ⟨c',r,g,g1,g2,rfl,rfl,j⟩
theorem S4 (t:ag) (l:List Bs) (w:Z3) (h:w.cV=22):jK t l w=w:=by
 induction l generalizing w with
 | nil=>rfl
 | cons a r b =>
  rw [jK];have:fH w 22=w:=by unfold fH; rw [h]; rfl
  simp only [Ab.on,this];cases (!(jG t.ay a).2)<;>exact b w h
theorem S5 (d:ai) (va:Z9) (li:Bool) (c:Int) (t:ag) (l:List Bs) :
  (qI ⟨d,va,li,c⟩ t l=Sum.inr (zv,22,⟨d,va,li,c⟩)/\jK t l ⟨d,va,li,c,0⟩=⟨d,va,li,c,22⟩) \/
  (qI ⟨d,va,li,c⟩ t l=Sum.inl ()/\jK t l ⟨d,va,li,c,0⟩=⟨d,va,li,c,0⟩):=by
 induction l with
 | nil=>exact .inr ⟨rfl,rfl⟩
 | cons a r b =>
  rw [qI,jK];simp only [Ab.on,wL,SC,yW];cases h:(dz t.ay.l a).2 with
  | true=>simpa using b
  | false =>
   left
   simp only [Bool.not_false,cond_true];exact⟨rfl,S4 t r _ rfl⟩
theorem S6 (a0:Sl Z7) (i:Nat) (x:Z7) (hi:a0.l[i]?=some x) (u:a0.l.length<=1048576):∀(k f:Nat) (s:Nat),s+k=i->k<f ->
  nX a0 (i:Int) f (s:Int)=some (((a0.l.take i).drop s).any fun y=>y.aa==x.aa):=by
 have v:i<a0.l.length:=(List.getElem?_eq_some_iff.1 hi).1;intro k;induction k with
 | zero =>
  intro f s b j;obtain⟨f,rfl⟩:∃g,f=g+1:=⟨f-1,by omega⟩;rw [nX,show decide ((s:Int)<(i:Int))=false from dF (by omega),cond_false,List.drop_of_length_le (by simp; omega)]; rfl
 | succ k m =>
  intro f s b j;obtain⟨f,rfl⟩:∃g,f=g+1:=⟨f-1,by omega⟩;have p:s<a0.l.length:=by omega
  rw [nX,show decide ((s:Int)<(i:Int))=true from dT (by omega),cond_true];have q:dh a0.l (s:Int)=some a0.l[s]:=by unfold dh; rw [if_pos (by omega),show ((s:Int).toNat)=s by omega,List.getElem?_eq_getElem p]
  have r:dh a0.l (i:Int)=some x:=by unfold dh; rw [if_pos (by omega),show ((i:Int).toNat)=i by omega,hi]
  rw [q,r,oB,oB];have t:(a0.l.take i).drop s=a0.l[s]::(a0.l.take i).drop (s+1):=by
   rw [List.drop_eq_getElem_cons (by simp; omega)]; simp
  rw [t,List.any_cons,fQ (by omega),oB];cases a0.l[s].aa==x.aa with
  | true=>rfl
  | false=>rw [cond_false,Bool.false_or]; exact m f (s+1) (by omega) (by omega)
theorem S7 (a0:Sl Z7) (i:Nat) (x:Z7) (hi:a0.l[i]?=some x) (b:a0.l.length<=1048576):wM a0 (i:Int)=some (dz (a0.l.take i) x.aa).2:=by
 have f:i<a0.l.length:=(List.getElem?_eq_some_iff.1 hi).1;unfold wM BJ;have:=S6 a0 i x hi b i F0 0 (by omega) (by rw [gz]; omega);rw [show ((0:Int))=((0:Nat):Int) from rfl,this,List.drop_zero];unfold dz
 congr 1
 cases h:(a0.l.take i).find? (fun t=>t.aa==x.aa) with
 | none=>rw [List.find?_eq_none] at h; rw [List.any_eq_false]; exact h
 | some t=>exact List.any_eq_true.2 ⟨t,List.mem_of_find?_eq_some h,by simpa using List.find?_some h⟩
theorem S8 {M:Nat}{x y r f:Z9}{b b' k k':Bool}{nm:Bs}(h:Rl (M+1) x y) (hr:Rl M r f) (g:x.ak≠3) (j:x.ak≠4) (m:x.aG.l.length+1<=bB) (p:x.aW.l.length+1<=bB) (hk:k=false) :
  Rl (M+1) (Z9.mk x.ak x.bz x.br b (x.aG.l++[r]) ⟨k,x.aW.l++[nm]⟩) (Z9.mk y.ak y.bz y.br b' (y.aG.l++[f]) ⟨k',y.aW.l++[nm]⟩):=by
 obtain⟨a1,a2,a3,a4,a5,q,s,t,a9⟩:=h;exact⟨a1,a2,a3,by show x.aW.l++[nm]=y.aW.l++[nm]; rw [a4],fun e=>(by have e:k=true:=e; rw [hk] at e; cases e),by show (x.aW.l++[nm]).length<=bB; simpa using p,by show (x.aG.l++[r]).length<=bB; simpa using m,
  fun h=>(h.elim g j).elim,a9.append (.cons hr .nil)⟩
def zi (M:Nat) (d:ai) (va:Z9) (li:Bool) (p:Option (((Z1×Z9)) ⊕ ((Z9×Int×Z1)))) (q:Option (Z3×Z9)):Prop :=
 (∃e c' k' x' b,e≠0/\p=some (Sum.inr (x',e,c'))/\q=some (k',b)/\k'.cV=e) \/
 (∃c' x' b,0<=c'/\c'<=4096/\p=some (Sum.inl (⟨d,va,li,c'⟩,x'))/\q=some (⟨d,va,li,c',0⟩,b)/\Rl M x' b)
def tc (b:Z9) (nm:Bs) (rec:Z1->Z9->Option (((Z1×Z9)) ⊕ ((Z9×Int×Z1)))) (e:Int) (c:Z1) (z:Z9):Option (((Z1×Z9)) ⊕ ((Z9×Int×Z1))) :=
 bif (!decide (e=(0:Int))) then(some (Sum.inr (zv,e,c))) else((bf 16 b.aW (⟨false,[nm]⟩:Sl Bs)).bind fun g=>(bf 80 b.aG (⟨false,[z]⟩:Sl Z9)).bind fun f=>rec c (Z9.mk b.ak b.bz b.br f.nl f.l g))
def td (b:Z9) (nm:Bs) (w:Z3) (z:Z9):Option (Z3×Z9) :=
 (bf 16 b.aW (⟨false,[nm]⟩:Sl Bs)).bind fun g=>(bf 80 b.aG (⟨false,[z]⟩:Sl Z9)).bind fun f=>some (w,(Z9.mk b.ak b.bz b.br f.nl f.l g))
theorem S9 {M:Nat}{d:ai}{va:Z9}{li:Bool}{x y:Z9}{nm:Bs}{s:Z1->Z9->Option (((Z1×Z9)) ⊕ ((Z9×Int×Z1)))}{rr:Z3->Z9->Option (Z3×Z9)}
  (hx:Rl (M+1) x y) (B:x.ak≠3) (C:x.ak≠4) (f:x.aG.l.length+1<=bB) (g:x.aW.l.length+1<=bB)
  (E:∀w z,w.cV≠0->rr w z=some (w,z))
  (F:∀(c:Int) (x' t:Z9),0<=c/\c<=4096->Rl (M+1) x' t->x'.ak=x.ak->x'.aG.l.length=x.aG.l.length+1->x'.aW.l.length=x.aW.l.length+1->zi (M+1) d va li (s ⟨d,va,li,c⟩ x') (rr ⟨d,va,li,c,0⟩ t))
  {p:Option (Z9×Int×Z1)}{q:Option (Z9×Z3)}(h:lK M d va li p q) :
  zi (M+1) d va li (p.bind fun r=>tc x nm s r.2.1 r.2.2 r.1) ((q.bind fun r=>td y nm r.2 r.1).bind fun z=>rr z.1 z.2):=by
 have K:y.aG.l.length=x.aG.l.length:=hx.2.2.2.2.2.2.2.2.length.symm;have G:y.aW.l=x.aW.l:=hx.2.2.2.1.symm;have H:∀r:Z9,bf 80 x.aG (⟨false,[r]⟩:Sl Z9)=some ⟨x.aG.nl&&[r].isEmpty,x.aG.l++[r]⟩:=fun r=>s8 (by unfold bB at f; simp; omega);have u:∀r:Z9,bf 80 y.aG (⟨false,[r]⟩:Sl Z9)=some ⟨y.aG.nl&&[r].isEmpty,y.aG.l++[r]⟩:=fun r=>s8 (by unfold bB at f; simp; omega)
 have I:bf 16 x.aW (⟨false,[nm]⟩:Sl Bs)=some ⟨x.aW.nl&&[nm].isEmpty,x.aW.l++[nm]⟩:=yp (by omega) (by unfold bB at g; simp; omega);have v:bf 16 y.aW (⟨false,[nm]⟩:Sl Bs)=some ⟨y.aW.nl&&[nm].isEmpty,y.aW.l++[nm]⟩:=yp (by omega) (by rw [G]; unfold bB at g; simp; omega);rcases h with ⟨e,r,c',J,k',j,k,m,b⟩|⟨c',r,J,g1,g2,k,m,b⟩
 ·left
  rw [k,m];unfold tc td;simp only [oB,v,u];rw [E _ _ (by rw [b]; exact j)];exact⟨e,c',k',zv,_,j,by simp [j],rfl,b⟩
 ·rw [k,m];unfold tc td;simp only [oB,v,u,I,H,decide_true,Bool.not_true,cond_false];exact F c' _ _ ⟨g1,g2⟩ (S8 hx b B C f g (by simp)) rfl (by show (x.aG.l++[r]).length=_; simp) (by show (x.aW.l++[nm]).length=_; simp)
theorem J8 (a1:ag) (a2:Z9) (a3:Int) (k k2:Z3->aL->Z9->Int->Option (Z9×Z3)) (l:List Z7) (i:Nat) (w:Z3) (x:Z9) (h:w.cV≠0):gU a1 a2 a3 k k2 l i w x=some (w,x):=by
 cases l with
 | nil=>rfl
 | cons a t=>rw [gU]; simp [h]
theorem S_ (a1:ag) (a2:Z9) (a3:Int) (b:Z1->aL->Z9->Int->Option (Z9×Int×Z1)) (f:Z1->Z7->Int->Option (Z9×Int×Z1)) (h:Z7) (r:List Z7) (i:Nat) (c:Z1) (x:Z9) :
  iy a1 a2 a3 b f (h::r) i c x=bif (o4 (⟨a1.ay.nl,a1.ay.l.take i⟩:Sl Z7) h.aa).2 then(iy a1 a2 a3 b f r (i+1) c x) else
   ((pz a2 h.aa).bind fun g=>aY (g.2) (uW c g.1) false fun m =>
    bif (g.2&&(!m)) then((cF a3 (1:Int)).bind fun p=>(b c h.ax g.1 p).bind fun j=>tc x h.aa (iy a1 a2 a3 b f r (i+1)) j.2.1 j.2.2 j.1)
    else(bif h.b_ then((cF a3 (1:Int)).bind fun q=>(f c h q).bind fun k=>tc x h.aa (iy a1 a2 a3 b f r (i+1)) k.2.1 k.2.2 k.1)
    else(bif iP h.ax then(tc x h.aa (iy a1 a2 a3 b f r (i+1)) (22:Int) c Z9.zero) else(iy a1 a2 a3 b f r (i+1) c x)))):=by
 rw [iy]; rfl
theorem Ta (a1:ag) (a2:Z9) (a3:Int) (f g:Z3->aL->Z9->Int->Option (Z9×Z3)) (h:Z7) (r:List Z7) (i:Nat) (w:Z3) (x:Z9) (hw:w.cV=0) :
  gU a1 a2 a3 f g (h::r) i w x=((wM a1.ay ((i:Nat):Int)).bind fun m=>Option.bind (bif m then(some (w,x)) else
   ((mL a2 h.aa).bind fun b=>aY (b.2) (qF w b.1) false fun p =>
    bif (b.2&&(!p)) then((cF a3 (1:Int)).bind fun q=>(f w h.ax b.1 q).bind fun j=>td x h.aa j.2 j.1)
    else(bif h.b_ then((cF a3 (1:Int)).bind fun s=>(g w h.ax h.dm s).bind fun k=>td x h.aa k.2 k.1)
    else(bif iv h.ax then(td x h.aa (fH w (22:Int)) Z9.zero) else(some (w,x)))))) fun l=>gU a1 a2 a3 f g r (i+1) l.1 l.2):=by
 rw [gU];simp only [hw,decide_true,cond_true];rfl
theorem Tb {N M n m:Nat}{d:ai}{f:Int}(P:N+1<=1099511627776) (bQ:qH (N+1) M d n m (f+1)) (Q:EN (N+1) M d n m (f+1)) (am:0<=f/\f<=1000){va:Z9}{li:Bool}{t:ag}{v w:Z9}
  (E:Rl (N+2) va va) (ht:lM (N+1) t) (hv:Rl (N+1) v w) :
  ∀(l:List Z7) (i:Nat) (c:Int) (x y:Z9),t.ay.l.drop i=l->0<=c/\c<=4096->Rl (M+1) x y->x.ak=6->x.aG.l.length+l.length<=1048576->x.aW.l.length+l.length<=1048576 ->
   zi (M+1) d va li (iy t v f (fR n) (jt n) l i ⟨d,va,li,c⟩ x) (gU t w f (eO m) (iw m) l i ⟨d,va,li,c,0⟩ y):=by
 intro l;induction l with
 | nil=>intro i c x y _ hc hx _ _ _; exact .inr ⟨c,x,y,hc.1,hc.2,rfl,rfl,hx⟩
 | cons h r F =>
  intro i c x y s hc hx g R S;simp only [List.length_cons] at R S;have G:i<t.ay.l.length:=by
   rcases Nat.lt_or_ge i t.ay.l.length with c|c
   ·exact c
   ·rw [List.drop_of_length_le c] at s; cases s
  have u:=List.drop_eq_getElem_cons G;rw [s] at u;simp only [List.cons.injEq] at u;obtain⟨hh,hr⟩:=u;have H:t.ay.l[i]?=some h:=by rw [List.getElem?_eq_getElem G,hh]
  have I:nW (N+1) h:=ht.2 h (List.mem_of_getElem? H);have B:x.ak≠3:=by rw [g]; decide
  have J:x.ak≠4:=by rw [g]; decide
  rw [S_,Ta _ _ _ _ _ _ _ _ _ _ rfl,S7 t.ay i h H ht.1,yW,oB];have skip:=F (i+1) c x y hr.symm hc hx g (by omega) (by omega);have U:∀(c:Int) (x' j:Z9),0<=c/\c<=4096->Rl (M+1) x' j->x'.ak=x.ak->x'.aG.l.length=x.aG.l.length+1->x'.aW.l.length=x.aW.l.length+1 ->
    zi (M+1) d va li (iy t v f (fR n) (jt n) r (i+1) ⟨d,va,li,c⟩ x') (gU t w f (eO m) (iw m) r (i+1) ⟨d,va,li,c,0⟩ j) :=
   fun c x' j h1 W B J an=>F (i+1) c x' j hr.symm h1 W (B.trans g) (by omega) (by omega)
  have fin:∀{p q},lK M d va li p q->_:=fun {p q} h1=>S9 (nm:=h.aa) (rr:=fun k z=>gU t w f (eO m) (iw m) r (i+1) k z) (p:=p) (q:=q) hx B J (by unfold bB; omega) (by unfold bB; omega) (fun w z hw=>J8 _ _ _ _ _ _ _ _ _ hw) U h1;have K:cF f (1:Int)=some (f+1):=fQ (by omega);cases (dz (t.ay.l.take i) h.aa).2 with
  | true=>simp only [cond_true,oB]; exact skip
  | false =>
   simp only [cond_false];obtain⟨X,Y,b,Z,ab,ad⟩:=EG hv (by omega) h.aa;rw [Z,ab,oB,oB];have rest:zi (M+1) d va li
     (bif h.b_ then((cF f (1:Int)).bind fun ae=>(jt n ⟨d,va,li,c⟩ h ae).bind fun C=>tc x h.aa (iy t v f (fR n) (jt n) r (i+1)) C.2.1 C.2.2 C.1)
      else(bif iP h.ax then(tc x h.aa (iy t v f (fR n) (jt n) r (i+1)) (22:Int) ⟨d,va,li,c⟩ Z9.zero) else(iy t v f (fR n) (jt n) r (i+1) ⟨d,va,li,c⟩ x)))
     (Option.bind (bif h.b_ then((cF f (1:Int)).bind fun aj=>(iw m ⟨d,va,li,c,0⟩ h.ax h.dm aj).bind fun L=>td y h.aa L.2 L.1)
      else(bif iv h.ax then(td y h.aa (fH ⟨d,va,li,c,0⟩ (22:Int)) Z9.zero) else(some (⟨d,va,li,c,0⟩,y)))) fun O=>gU t w f (eO m) (iw m) r (i+1) O.1 O.2):=by
    cases hh:h.b_ with
    | true =>
     simp only [cond_true,K,oB];exact fin (Q va li c h hc I hh)
    | false =>
     simp only [cond_false];rw [wu,wy];cases fo h.ax.aK.l with
     | true =>
      simp only [cond_true,wL];exact fin (p:=some (Z9.zero,22,⟨d,va,li,c⟩)) (q:=some (Z9.zero,⟨d,va,li,c,22⟩)) (.inl ⟨22,_,_,_,_,by decide,rfl,rfl,rfl⟩)
     | false=>simp only [cond_false,oB]; exact skip
   rcases ad with ⟨rfl,hg⟩|⟨rfl,ao,ap⟩
   ·obtain⟨al,m1,m2⟩:=J2 (n:=N+1) E P d li c hg;simp only [aY,if_true,m1,m2,oB];cases al with
    | true=>simp only [Bool.not_true,Bool.and_false,cond_false]; exact rest
    | false =>
     simp only [Bool.not_false,Bool.and_true,cond_true,K,oB];exact fin (bQ va li c h.ax h.ax X Y E hc I.1 ⟨rfl,rfl⟩ (hg.mono (by omega)))
   ·simp only [aY,Bool.false_eq_true,if_false,Bool.false_and,cond_false];exact rest
theorem Tc {N M n m:Nat}{d:ai}{b:Int}(s:N<=1099511627776) (bQ:qH N M d n m (b+1)) (u:EN N M d n m (b+1)) (y:0<=b/\b<=1000):EM N (M+1) d (n+1) (m+1) b:=by
 intro va li c t v w z hc ht hv;obtain⟨N,rfl⟩:∃B,N=B+1:=by cases N with|zero=>exact hv.elim|succ N=>exact⟨N,rfl⟩
 have h0:Rl (M+1) (Z9.mk 6 0 [] true [] Sl.nil) (Z9.mk 6 0 [] true [] Sl.nil) :=
  ⟨rfl,⟨rfl,by show _<=(0:Int); decide,by show (0:Int)<=_; decide⟩,rfl,rfl,fun _=>rfl,by show 0<=_; omega,by show 0<=_; omega,fun h=>(by rcases h with h|h<;>cases h),.nil⟩
 rw [uZ,kS,<- hv.1,<- hv.2.2.2.1];by_cases r:v.ak=6
 ·simp only [r,decide_true,Bool.not_true,cond_false,Ab.on];rcases S5 d va li c t v.aW.l with ⟨f,g⟩|⟨f,g⟩
  ·rw [f,g];rw [J8 _ _ _ _ _ _ _ _ _ (by show (22:Int)≠0; decide)];exact .inl ⟨22,zv,_,_,_,by decide,rfl,rfl,rfl⟩
  ·rw [f,g];simp only;rcases Tb s bQ u y (li:=li) z ht hv t.ay.l 0 c _ _ (by simp) hc h0 rfl (by show 0+_<=_; have:=ht.1; omega) (by show 0+_<=_; have:=ht.1; omega) with ⟨e,c',k',x',j,C,k,p,q⟩|⟨c',x',j,g1,g2,k,p,q⟩
   ·rw [k,p]; exact .inl ⟨e,x',c',j,k',C,rfl,rfl,q⟩
   ·rw [k,p]; exact .inr ⟨c',x',j,g1,g2,rfl,rfl,q⟩
 ·simp only [r,decide_false,Bool.not_false,cond_true,Ab.on,wL];exact .inl ⟨23,_,_,_,_,by decide,rfl,rfl,rfl⟩
theorem EO {N M n m:Nat}{d:ai}{f:Int}(L:N+1<=1099511627776) (k:N<=M) (y:1<=M) (z:∀s,lM N (bg d.aj.l s).1) (O:0<=f/\f<=1000) (hl:f<=24->EL N M d n m f) (B:f<=24->EM N M d n m f):qH N M d (n+1) (m+1) f:=by
 intro va li c t t' v w p hc ht he hv;rw [SV,J5,EE,<- he.1];cases hi:iQ d t.aa with
 | false=>exact .inl ⟨10,zv,_,zv,_,by decide,rfl,rfl,rfl⟩
 | true =>
  have hk:v.ak=w.ak:=by cases N with|zero=>exact hv.elim|succ N=>exact hv.1
  have G:v.br=w.br:=by cases N with|zero=>exact hv.elim|succ N=>exact hv.2.2.1
  have H:(li&&decide (w.ak=7))=(decide (v.ak=7)&&li):=by rw [hk,Bool.and_comm]
  simp only [Bool.not_true,cond_false,H];cases P:(decide (v.ak=7)&&li) with
  | false=>exact J7 k y z hl B p hc ht he hk (fun _=>hv) hi
  | true =>
   simp only [cond_true];obtain⟨j,C,b,I,J,hg⟩:=EG p (by omega) v.br;rw [<- G,I,J,oB,oB];have K:j.ak=C.ak:=by
    rcases hg with ⟨_,h⟩|⟨_,h1,E⟩
    ·cases N with|zero=>exact h.elim|succ N=>exact h.1
    ·rw [h1,E]
   simp only [<- K];by_cases g:j.ak=0
   ·simp only [g,decide_true,Bool.not_true,cond_false];exact J7 k y z hl B p hc ht he g (fun h=>(h g).elim) hi
   ·simp only [g,decide_false,Bool.not_false,cond_true];have hr:Rl N j C:=by
     rcases hg with ⟨_,h⟩|⟨_,h1,E⟩
     ·exact h
     ·rw [h1] at g; exact(g rfl).elim
    unfold EJ EK;rcases J1 N hr F0 d va li c f (by rw [gz]; omega) hc (by omega) with ⟨e,c',x,k',F,q,r,u⟩|⟨c',x,g1,g2,q,r,u⟩
    ·rw [q,r];exact .inl ⟨e,zv,c',x,k',F,by simp [F],rfl,u⟩
    ·rw [q,r];exact .inr ⟨c',j,x,g1,g2,rfl,rfl,u.mono k⟩
theorem Td {N:Nat}{d:ai}(f:N+1<=1099511627776) (g:∀s,lM N (bg d.aj.l s).1):∀(k:Nat) (b:Int),1<=b/\b<=900->25<=b+k->∀n m,3*k+1<=n->3*k+1<=m->qH N (N+k+1) d n m b:=by
 intro k;induction k with
 | zero =>
  intro b hl hk n m hn hm va li c t t' v w q hc ht he hv;obtain⟨n,rfl⟩:∃x,n=x+1:=⟨n-1,by omega⟩;obtain⟨m,rfl⟩:∃x,m=x+1:=⟨m-1,by omega⟩;exact EO f (by omega) (by omega) g (by omega) (fun h=>by omega) (fun h=>by omega) va li c t t' v w q hc ht he hv
 | succ k j =>
  intro b hl hk n m hn hm;obtain⟨n,rfl⟩:∃x,n=x+3:=⟨n-3,by omega⟩;obtain⟨m,rfl⟩:∃x,m=x+3:=⟨m-3,by omega⟩;by_cases p:b<=24
  ·have a1:qH N (N+k+1) d n m (b+1):=j (b+1) (by omega) (by omega) n m (by omega) (by omega);have a2:qH N (N+k+1) d (n+1) (m+1) (b+1):=j (b+1) (by omega) (by omega) _ _ (by omega) (by omega);exact EO f (by omega) (by omega) g (by omega) (fun _=>S0 a2 (by omega)) (fun _=>Tc (by omega) a2 (S3 a1) (by omega))
  ·exact EO f (by omega) (by omega) g (by omega) (fun h=>(p h).elim) (fun h=>(p h).elim)
def EP (M:Nat) (p q:Option (Z9×Int)):Prop:=∃x y e,p=some (x,e)/\q=some (y,e)/\Rl M x y
theorem Te {N M:Nat}(l:1<=M) (t:M<=1099511627776){d:ai}{va:Z9}{li:Bool}{p:Option (Z9×Int×Z1)}{q:Option (Z9×Z3)}(h:lK M d va li p q) :
  EP M (p.bind fun x=>tf x.1 x.2.1) (q.bind fun x=>bif (!decide (x.2.cV=(0:Int))) then some (zv,x.2.cV) else some (x.1,0)):=by
 rcases h with ⟨e,r,c',j,k',k,b,f,g⟩|⟨c',r,j,g1,g2,b,f,g⟩
 ·rw [b,f];refine⟨zv,zv,e, ?_, ?_,wI.mono l⟩
  ·unfold tf; simp [k]; rfl
  ·simp [g,k]
 ·rw [b,f];obtain⟨x,m,s⟩:=EF M g F0 (by rw [gz]; omega);refine⟨x,j,0, ?_,by simp,s⟩;unfold tf qE;simp [m]
theorem Tf {N:Nat}{d:ai}(r:N+1<=1099511627000) (g:∀s,lM N (bg d.aj.l s).1){va:Z9}{li:Bool}{t:aL}{v w:Z9}(j:Rl (N+1) va va) (ht:ep t.aK) (hv:Rl N v w) :
  EP (N+25) ((EQ ⟨d,va,li,0⟩ t v 1).bind fun b=>(tf b.1 b.2.1).bind fun f=>some (f.1,f.2)) ((qJ ⟨d,va,li,0,0⟩ t w).bind fun x=>some (x.1,x.2.1)):=by
 have h:=Td (by omega) g 24 1 (by omega) (by omega) F0 F0 (by rw [gz]; omega) (by rw [gz]; omega) va li 0 t t v w j (by omega) ht ⟨rfl,rfl⟩ hv;have k:=Te (N:=N) (by omega) (by omega) h;unfold qJ EQ BK;obtain⟨x,y,e,m,p,q⟩:=k;refine⟨x,y,e, ?_, ?_,q⟩
 ·rw [<- m];cases fR F0 ⟨d,va,li,0⟩ t v 1 with
  | none=>rfl
  | some a=>simp only [oB]; cases tf a.1 a.2.1<;>rfl
 ·rw [<- p];cases eO F0 ⟨d,va,li,0,0⟩ t w 1 with
  | none=>rfl
  | some a=>simp only [oB]; cases (!decide (a.2.cV=(0:Int)))<;>rfl
theorem Tg {N:Nat}{d:ai}(j:N+1<=1099511627000) (k:∀s,lM N (bg d.aj.l s).1){va:Z9}{t:aL}{v w:Z9}(f:Rl (N+1) va va) (ht:ep t.aK) (hv:Rl N v w) :
  EP (N+25) (qK d t v va) (nY d t w va):=by
 unfold qK nY;obtain⟨b,m1,m2⟩:=J2 f (by omega) d true 0 hv;have g:=Tf j k (li:=true) f ht hv;simp only [Ab.on,m1,oB,EE];cases hi:iQ d t.aa with
 | false =>
  simp only [aY,Bool.false_eq_true,if_false,Bool.false_and,cond_false,Bool.not_false,cond_true];cases b with
  | false=>simp only [cond_false]; exact g
  | true =>
   simp only [cond_true];refine⟨zv,zv,10,rfl, ?_,wI.mono (by omega)⟩;unfold qJ BK;rw [show F0=4611686018427387903+1 from rfl,J5,EE,hi]; rfl
 | true =>
  simp only [aY,if_true,m2,oB,Bool.true_and,Bool.not_true,cond_false];cases b with
  | false=>simp only [cond_false]; exact g
  | true=>simp only [cond_true]; exact⟨zv,zv,8,rfl,rfl,wI.mono (by omega)⟩
theorem Ti {v:Z9}{b:Bool}(h:sC v b=some true) (hk:v.ak=3\/v.ak=4):v.bz=0/\v.aG.l=[]/\v.aW.l=[]:=by
 unfold sC at h;rcases hk with hk|hk
 ·simp [hk,Ab.on] at h;exact⟨h.1.1,h.1.2,h.2⟩
 ·simp only [hk,show decide ((4:Int)=0)=false from rfl,show decide ((4:Int)=1)=false from rfl,show decide ((4:Int)=2)=false from rfl,show decide ((4:Int)=3)=false from rfl,decide_true,cond_false,cond_true,Ab.on] at h;cases c:(((decide (v.bz=(0:Int)))&&(decide (((v.aG.l.length:Nat):Int)=(0:Int))))&&(decide (((v.aW.l.length:Nat):Int)=(0:Int)))) with
  | true=>simp at c; exact⟨c.1.1,c.1.2,c.2⟩
  | false=>rw [c] at h; simp at h
theorem Tj (n:Nat):∀(v:Z9) (b:Bool),iu n v b=some true->v.wf->v.sz<=1048576->Rl n v v:=by
 induction n with
 | zero=>intro v b h; cases h
 | succ n p =>
  intro v b h hw s;rw [iu] at h;cases e:sC v b with
  | none=>rw [e] at h; cases h
  | some x =>
   cases x with
   | false=>rw [e] at h; cases h
   | true =>
    rw [e] at h;simp only [oB,Bool.not_true,cond_false,Ab.on] at h;have m:=(Z9.ux v).1 hw;have t:=v.bA;have hl:∀l:List Z9,kA b (iu n) l=some (Sum.inl ())->∀x∈l,iu n x b=some true:=by
     intro l;induction l with
     | nil=>intro _ x hx; cases hx
     | cons a r g =>
      intro h;rw [kA] at h;simp only [Ab.on] at h;cases e:iu n a b with
      | none=>simp [e] at h
      | some y =>
       cases y with
       | false=>simp [e] at h
       | true =>
        simp only [e,oB,Bool.not_true,cond_false] at h;intro x hx;rcases List.mem_cons.1 hx with rfl|hx
        ·exact e
        ·exact g h x hx
    have q:∀x∈v.aG.l,iu n x b=some true:=by
     cases j:qL b v.aW.l with
     | inr y=>rw [j] at h; simp only [Option.some.injEq] at h; subst h; exact absurd j (by
       intro j;have:∀l:List Bs,qL b l≠Sum.inr true:=by
        intro l;induction l with
        | nil=>intro h; cases h
        | cons a r g =>
         rw [qL]; simp only [Ab.on];cases (b&&!(bif b then ff (bif b then a else []) else false)) with
         | true=>intro h; cases h
         | false=>exact g
       exact this _ j)
     | inl _ =>
      rw [j] at h;simp only at h;cases k:kA b (iu n) v.aG.l with
      | none=>rw [k] at h; cases h
      | some z =>
       cases z with
       | inl _=>exact hl _ k
       | inr y =>
        rw [k] at h;simp only [oB,Option.some.injEq] at h;subst h;have:∀l:List Z9,kA b (iu n) l≠some (Sum.inr true):=by
         intro l;induction l with
         | nil=>intro h; cases h
         | cons a r g =>
          rw [kA]; simp only [Ab.on];cases iu n a b with
          | none=>intro h; cases h
          | some y =>
           cases y with
           | false=>intro h; cases h
           | true=>exact g
        exact(this _ k).elim
    have u:=Sl.dP (f:=Z9.sz) v.aG (fun x=>by have:=x.bA; omega);have w:=Sl.dP (f:=Bs.sz) v.aW (fun x=>Bs.lm x);have self:∀l:List Z9,(∀x∈l,Rl n x x)->aQ (Rl n) l l:=by
     intro l;induction l with
     | nil=>intro _; exact .nil
     | cons a r g=>intro h; exact .cons (h a (by simp)) (g fun x hx=>h x (by simp [hx]))
    refine⟨rfl,⟨rfl,m.2.1⟩,rfl,rfl,m.2.2.2.2.1.1,by unfold bB; omega,by unfold bB; omega,Ti e,self _ fun x hx=>p x b (q x hx) ?_ ?_⟩
    ·exact m.2.2.2.1.2.2 x hx
    ·have:=Sl.dA (f:=Z9.sz) hx; omega
theorem Tl {v:Z9}(h:gN v=some true):iu F0 v true=some true:=by
  unfold gN at h;obtain⟨a,_,h⟩:=bw h;rcases fZ h with ⟨_,b,_,h⟩|⟨_,h⟩
  · rcases fZ h with ⟨_,c,e,h⟩|⟨_,h⟩
    · simp at h; rw [h.2] at e; exact e
    · simp at h
  · rcases fZ h with ⟨_,c,e,h⟩|⟨_,h⟩
    · simp at h; rw [h.2] at e; exact e
    · simp at h
theorem Tm (l:List Z7) (z:Unit ⊕ Bool) (h:mh l=some z):(z=Sum.inl ()/\∀x∈l,x.b_=true->gN x.dm=some true)\/z=Sum.inr false:=by
  induction l generalizing z with
  | nil=>rw [mh] at h; exact .inl ⟨(oJ h).symm,fun a j=>by cases j⟩
  | cons a r k =>
    rw [mh] at h;simp only [Ab.on] at h;have step:∀(b:Bool),(a.b_=true->gN a.dm=some b)->∀f:Bool,(bif ((a.b_&&((!b)||(!f)))||((!a.b_)&&(!(bif (!(a.b_&&((!b)||(!f)))&&(!a.b_)) then BL a.dm else false)))) then(some (Sum.inr false)) else(mh r))=some z ->
        (z=Sum.inl ()/\∀x∈a::r,x.b_=true->gN x.dm=some true)\/z=Sum.inr false:=by
      intro b e f h;rcases gp h with ⟨_,h⟩|⟨hc,h⟩
      · exact .inr (oJ h).symm
      · rcases k z h with ⟨h1,m⟩|h1
        · refine .inl ⟨h1,fun x hx hh=>?_⟩
          rcases List.mem_cons.1 hx with rfl|hx
          · have:=e hh
            rw [hh] at hc;cases b with
            | true=>exact this
            | false=>simp at hc
          · exact m x hx hh
        · exact .inr h1
    rcases fZ h with ⟨_,p,_,h⟩|⟨_,h⟩<;>rcases fZ h with ⟨_,q,_,h⟩|⟨_,h⟩<;>rcases gp h with ⟨_,h⟩|⟨_,h⟩;all_goals first
      | exact .inr (oJ h).symm
      | (rcases fZ h with ⟨_,b,g,h⟩|⟨g,h⟩
         · rcases fZ h with ⟨_,f,_,h⟩|⟨_,h⟩
           · exact step b (fun _=>g) f h
           · exact step b (fun _=>g) false h
         · rcases fZ h with ⟨_,f,_,h⟩|⟨_,h⟩
           · exact step false (fun hh=>by rw [hh] at g; cases g) f h
           · exact step false (fun hh=>by rw [hh] at g; cases g) false h)
theorem J9 {s:Sl Z7}(h:qv s=some true):∀x∈s.l,x.b_=true->gN x.dm=some true:=by
  unfold qv at h;rcases gp h with ⟨_,h⟩|⟨_,h⟩
  · cases h
  · obtain⟨z,g,h⟩:=bw h
    rcases Tm _ _ g with ⟨_,h1⟩|rfl
    · exact h1
    · cases h
theorem Tn {t:ag}(h:lq t=some true):∀x∈t.ay.l,x.b_=true->gN x.dm=some true:=by
  have nil:t.ay.l=[]->∀x∈t.ay.l,x.b_=true->gN x.dm=some true:=fun e x hx=>by rw [e] at hx; cases hx
  have fin:∀c:Bool,(some (c&&decide (((t.ay.l.length:Nat):Int)=(0:Int))))=some true->t.ay.l=[]:=fun c h=>by
    simp at h; exact h.2
  unfold lq at h;simp only [Ab.on] at h;rcases fZ h with ⟨_,x5,_,h⟩|⟨_,h⟩<;>rcases gp h with ⟨_,h⟩|⟨_,h⟩;all_goals first
    | (cases h; done)
    | (cases e:nC t.aH.l with
       | inr y=>rw [e] at h; have:=Ea _ _ e; subst this; cases h
       | inl _ =>
         rw [e] at h;simp only at h;rcases gp h with ⟨_,h⟩|⟨_,h⟩
         · obtain⟨b,_,h⟩:=bw h
           exact nil (fin _ h)
         · rcases gp h with ⟨_,h⟩|⟨_,h⟩
           · rcases fZ h with ⟨_,x,_,h⟩|⟨_,h⟩<;>exact nil (fin _ h)
           · rcases gp h with ⟨_,h⟩|⟨_,h⟩
             · rcases fZ h with ⟨_,x,_,h⟩|⟨_,h⟩<;>exact nil (fin _ h)
             · rcases gp h with ⟨_,h⟩|⟨_,h⟩
               · rcases fZ h with ⟨_,x,_,h⟩|⟨_,h⟩<;>exact nil (fin _ h)
               · rcases gp h with ⟨_,h⟩|⟨_,h⟩
                 · rcases fZ h with ⟨_,x,ex,h⟩|⟨_,h⟩
                   · simp at h; rw [h.2] at ex; exact J9 ex
                   · simp at h
                 · cases h)
theorem To {α:Type}{R S:α->α->Prop}{l:List α}(h:aQ R l l) (hi:∀x∈l,R x x->S x x):aQ S l l :=
 aQ.jf rfl fun i x y h1 b=>by
  rw [h1] at b; simp only [Option.some.injEq] at b; subst b;obtain⟨y,f,g⟩:=h.get h1;rw [h1] at f; simp only [Option.some.injEq] at f; subst f;exact hi x (List.mem_of_getElem? h1) g
theorem Rl.small:∀(m n:Nat){v:Z9},Rl n v v->v.sz<=m->Rl m v v
 | 0,_,v,_,hm=>by have:=v.pos; omega
 | _+1,0,_,h,_=>h.elim
 | m+1,n+1,v,⟨a,b,c,d,e,f,g,i,k⟩,hm=>⟨a,b,c,d,e,f,g,i,To k fun x hx h=>Rl.small m n h (by have:=Z9.mg hx; omega)⟩
def nB:Nat:=1048576
theorem Tp {v:Z9}(h:gN v=some true) (hw:v.wf) (b:v.sz<=1048576):Rl nB v v:=Rl.small _ _ (Tj F0 v true (Tl h) hw b) b
theorem Tq {t:aL}(hw:t.wf) (b:t.sz<=1048576):ep t.aK:=⟨hw.2.1.1,by have:=aL.uH t; omega⟩
theorem J_ {x:Z7}(hl:x.b_=true->gN x.dm=some true) (hw:x.wf) (b:x.sz<=1048576):nW nB x:=by
 have:=x.bA;exact⟨Tq hw.2.1 (by omega),fun h=>Tp (hl h) hw.2.2.2.1 (by omega)⟩
theorem Tr {t:ag}(hl:∀x∈t.ay.l,x.b_=true->gN x.dm=some true) (hw:t.wf) (b:t.sz<=1048576):lM nB t:=by
 have h1:=t.bA;have g:=Sl.dP (f:=Z7.sz) t.ay (fun x=>x.pos);exact⟨by omega,fun x hx=>J_ (hl x hx) (hw.2.2.2.2.2.2.1.2.2 x hx) (by have:=Sl.dA (f:=Z7.sz) hx; omega)⟩
theorem Tt (l:List Z6) (z:Unit ⊕ Bool) (h:mi l=some z):(z=Sum.inl ()/\∀f∈l,∀x∈f.az.l,x.b_=true->gN x.dm=some true)\/z=Sum.inr false:=by
  induction l generalizing z with
  | nil=>rw [mi] at h; exact .inl ⟨(oJ h).symm,fun a j=>by cases j⟩
  | cons a r k =>
    rw [mi] at h;simp only [Ab.on] at h;cases hn:ff a.aa with
    | false =>
      rw [hn] at h;simp [aY] at h;exact .inr h.symm
    | true =>
      rw [hn] at h;simp only [Bool.not_true,Bool.not_false,cond_true,Bool.false_or] at h;rcases fZ h with ⟨_,y,m,h⟩|⟨g,_⟩
      · cases y with
        | false=>simp [aY] at h; exact .inr h.symm
        | true =>
          simp only [Bool.not_true,Bool.not_false,cond_true,Bool.false_or] at h;have p:=J9 m;have fin:∀b:Bool,(bif b then some (Sum.inr false) else mi r)=some z->(z=Sum.inl ()/\∀f∈a::r,∀x∈f.az.l,x.b_=true->gN x.dm=some true)\/z=Sum.inr false:=by
            intro b h;cases b with
            | true=>exact .inr (oJ h).symm
            | false =>
              rcases k z h with ⟨h1,q⟩|h1
              · exact .inl ⟨h1,fun f g=>by rcases List.mem_cons.1 g with rfl|g; exact p; exact q f g⟩
              · exact .inr h1
          rcases fZ h with ⟨_,w,_,h⟩|⟨_,h⟩<;>rcases fZ h with ⟨_,u,_,h⟩|⟨_,h⟩<;>exact fin _ h
      · cases g
theorem J' {s:Sl Z6}(h:oU s=some true):∀f∈s.l,∀x∈f.az.l,x.b_=true->gN x.dm=some true:=by
  unfold oU at h;rcases gp h with ⟨_,h⟩|⟨_,h⟩
  · cases h
  · obtain⟨z,g,h⟩:=bw h
    rcases Tt _ _ g with ⟨_,h1⟩|rfl
    · exact h1
    · cases h
theorem Tu {t:ag}(h:lq t=some true):∀f∈t.an.l,∀x∈f.az.l,x.b_=true->gN x.dm=some true:=by
  have nil:t.an.l.length=0->∀f∈t.an.l,∀x∈f.az.l,x.b_=true->gN x.dm=some true:=fun e f b=>by
    rw [List.length_eq_zero_iff] at e; rw [e] at b; cases b
  unfold lq at h;simp only [Ab.on] at h;rcases fZ h with ⟨_,x5,_,h⟩|⟨_,h⟩<;>rcases gp h with ⟨_,h⟩|⟨_,h⟩;all_goals first
    | (cases h; done)
    | (cases e:nC t.aH.l with
       | inr y=>rw [e] at h; have:=Ea _ _ e; subst this; cases h
       | inl _ =>
         rw [e] at h;simp only at h;rcases gp h with ⟨_,h⟩|⟨_,h⟩
         · obtain⟨j,g,h⟩:=bw h
           simp at h; rw [h.1.1] at g; exact J' g
         · rcases gp h with ⟨_,h⟩|⟨_,h⟩
           · rcases fZ h with ⟨_,x,g,h⟩|⟨_,h⟩
             · simp at h; rw [h.1.1.2] at g; exact J' g
             · simp at h
           · rcases gp h with ⟨_,h⟩|⟨_,h⟩
             · rcases fZ h with ⟨_,x,g,h⟩|⟨_,h⟩<;>simp at h
               exact nil (by rw [h.1.1.2]; rfl)
             · rcases gp h with ⟨_,h⟩|⟨_,h⟩
               · rcases fZ h with ⟨_,x,g,h⟩|⟨_,h⟩<;>simp at h
                 exact nil (by rw [h.1.1.2]; rfl)
               · rcases gp h with ⟨_,h⟩|⟨_,h⟩
                 · rcases fZ h with ⟨_,x,g,h⟩|⟨_,h⟩<;>simp at h
                   exact nil (by rw [h.1.1.1.2]; rfl)
                 · cases h)
def je (d:ai) (x:Z7) (p:Bs):List Z5:=bif x.b_ then(match qK d x.ax x.dm zv with|some y=>bif decide (y.2=0) then [] else [Z5.mk 23 p]|none=>[]) else []
theorem th (d:ai) (x:Z7) (p:Bs):(je d x p).length<=1:=by
 unfold je;cases x.b_ with
 | false=>simp
 | true =>
  cases qK d x.ax x.dm zv with
  | none=>simp
  | some y =>
   simp only [cond_true];cases decide (y.2=0) with
   | true=>simp
   | false=>simp
def Good (d:ai) (x:Z7):Prop:=x.sz<=1048576/\(x.b_=true->∃v w e,qK d x.ax x.dm zv=some (v,e)/\nY d x.ax x.dm zv=some (w,e))
theorem BM {α:Type}(g:α->List Z5) (h:∀x,(g x).length<=1):∀l:List α,(l.flatMap g).length<=l.length
 | []=>by simp
 | a::r=>by have:=BM g h r; have:=h a; simp only [List.flatMap_cons,List.length_append,List.length_cons]; omega
theorem Ka {d:ai}{x:Z7}(hx:Good d x) (p:Bs) (s:Sl Z5) (g:s.l.length<=549755813888):∃t,wN x p d s=some t/\t.l=s.l++je d x p:=by
 unfold wN je;cases hh:x.b_ with
 | false=>exact⟨s,rfl,by simp⟩
 | true =>
  obtain⟨v,w,e,b,_⟩:=hx.2 hh;have f:qK d x.ax x.dm (Z9.mk 0 0 [] true [] Sl.nil)=some (v,e):=b;rw [Bool.not_true,cond_false,f,b,oB];simp only [cond_true];cases decide (e=0) with
  | true=>exact⟨s,rfl,by simp⟩
  | false=>simp only [Bool.not_false,cond_true,cond_false]; rw [jE (by decide) (by show s.l.length+1<=_; omega)]; exact⟨_,rfl,rfl⟩
theorem ER (x:Z7) (h:x.sz<=1048576):x.aa.length<=1048576:=by
 have h1:=x.bA; have b:Bs.sz x.aa=x.aa.length+1:=rfl; omega
def ES (p n:Bs):Bs:=p++[40]++n++[41]
theorem Tv (d:ai) (b:ag) (f:Z6) (h1:b.aa.length<=1048576) (y:f.aa.length<=1048576):∀(l:List Z7) (s:Sl Z5),(∀x∈l,Good d x)->s.l.length+l.length<=549755813888 ->
  ∃t,tj d b f l s=some t/\t.l=s.l++l.flatMap fun x=>je d x (ES (b.aa++[46]++f.aa) x.aa):=by
 intro l;induction l with
 | nil=>intro s _ _; exact⟨s,rfl,by simp⟩
 | cons a r k =>
  intro s hx m;simp only [List.length_cons] at m;have g:=hx a (by simp);have hn:=ER a g.1;rw [tj];simp only [Ab.on];rw [dI (by simp only [List.length_append,List.length_cons,List.length_nil]; omega),oB,dI (by simp only [List.length_append,List.length_cons,List.length_nil]; omega),oB,dI (by simp only [List.length_append,List.length_cons,List.length_nil]; omega),oB,dI (by simp only [List.length_append,List.length_cons,List.length_nil]; omega),oB,dI (by simp only [List.length_append,List.length_cons,List.length_nil]; omega),oB]
  obtain⟨t,p,j⟩:=Ka g (b.aa++[46]++f.aa++[40]++a.aa++[41]) s (by omega);rw [p,oB];obtain⟨u,q,v⟩:=k t (fun x w=>hx x (by simp [w])) (by rw [j,List.length_append]; have:=th d a (b.aa++[46]++f.aa++[40]++a.aa++[41]); omega);exact⟨u,q,by rw [v,j,List.flatMap_cons,List.append_assoc]; rfl⟩
theorem Tw (d:ai) (b:ag) (h1:b.aa.length<=1048576):∀(l:List Z7) (s:Sl Z5),(∀x∈l,Good d x)->s.l.length+l.length<=549755813888 ->
  ∃t,qM d b l s=some t/\t.l=s.l++l.flatMap fun x=>je d x (b.aa++[46]++x.aa):=by
 intro l;induction l with
 | nil=>intro s _ _; exact⟨s,rfl,by simp⟩
 | cons a r j =>
  intro s hx k;simp only [List.length_cons] at k;have f:=hx a (by simp);have hn:=ER a f.1;rw [qM];simp only [Ab.on];rw [dI (by simp only [List.length_append,List.length_cons,List.length_nil]; omega),oB,dI (by simp only [List.length_append,List.length_cons,List.length_nil]; omega),oB];obtain⟨t,m,g⟩:=Ka f (b.aa++[46]++a.aa) s (by omega)
  rw [m,oB];obtain⟨u,p,q⟩:=j t (fun x v=>hx x (by simp [v])) (by rw [g,List.length_append]; have:=th d a (b.aa++[46]++a.aa); omega);exact⟨u,p,by rw [q,g,List.flatMap_cons,List.append_assoc]⟩
theorem Tx (d:ai) (p o n:Bs) (h1:p.length<=4194304) (H:o.length<=4) (I:n.length<=4):∀(l:List Z7) (s:Sl Z5),(∀x∈l,Good d x)->s.l.length+l.length<=549755813888 ->
  ∃t,qN d p o n l s=some t/\t.l=s.l++l.flatMap fun x=>je d x (p++o++x.aa++n):=by
 intro l;induction l with
 | nil=>intro s _ _; exact⟨s,rfl,by simp⟩
 | cons a r j =>
  intro s hx k;simp only [List.length_cons] at k;have g:=hx a (by simp);have hn:=ER a g.1;rw [qN];simp only [Ab.on];have step:∃t,(bif (!a.b_) then(some s) else((nY d a.ax a.dm (Z9.mk 0 0 [] true [] Sl.nil)).bind fun m=>bif (!decide (m.2=(0:Int))) then((bV p o).bind fun q=>(bV q a.aa).bind fun y=>(bV y n).bind fun z=>(bf 24 s (⟨false,[(Z5.mk 23 z)]⟩:Sl Z5)).bind fun B=>some B) else(some s)))=some t/\t.l=s.l++je d a (p++o++a.aa++n):=by
   unfold je;cases hh:a.b_ with
   | false=>exact⟨s,rfl,by simp⟩
   | true =>
    obtain⟨v,w,e,f,b⟩:=g.2 hh;have C:nY d a.ax a.dm (Z9.mk 0 0 [] true [] Sl.nil)=some (w,e):=b;rw [Bool.not_true,cond_false,C,f,oB];simp only [cond_true];cases decide (e=0) with
    | true=>exact⟨s,rfl,by simp⟩
    | false =>
     simp only [Bool.not_false,cond_true,cond_false];rw [dI (by omega),oB,dI (by simp only [List.length_append]; omega),oB,dI (by simp only [List.length_append]; omega),oB,jE (by decide) (by show s.l.length+1<=_; omega)];exact⟨_,rfl,rfl⟩
  obtain⟨t,f,b⟩:=step;rw [f,oB];obtain⟨u,E,F⟩:=j t (fun x G=>hx x (by simp [G])) (by rw [b,List.length_append]; have:=th d a (p++o++a.aa++n); omega);exact⟨u,E,by rw [F,b,List.flatMap_cons,List.append_assoc]⟩
theorem Kc (d:ai) (s:Sl Z7) (p o n:Bs) (h1:p.length<=4194304) (b:o.length<=4) (f:n.length<=4) (hx:∀x∈s.l,Good d x) (k:s.l.length<=1048576):∃t,u0 d s p o n=some t/\t.l=s.l.flatMap fun x=>je d x (p++o++x.aa++n):=by
 unfold u0;obtain⟨t,g,j⟩:=Tx d p o n h1 b f s.l (Sl.nil:Sl Z5) hx (by simp [Sl.nil]; omega);rw [g,oB];exact⟨t,rfl,by rw [j]; simp [Sl.nil]⟩
def fF (d:ai) (t:ag) (f:Z6):List Z5:=f.az.l.flatMap fun x=>je d x (ES (t.aa++[46]++f.aa) x.aa)
def fI (d:ai) (t:ag):List Z5:=t.ay.l.flatMap fun x=>je d x (t.aa++[46]++x.aa)
def fD (d:ai) (t:ag):List Z5:=t.an.l.flatMap (fF d t)++fI d t
def u3 (d:ai) (f:Z6):Prop:=f.sz<=1048576/\∀x∈f.az.l,Good d x
def BN (d:ai) (t:ag):Prop:=t.sz<=1048576/\(∀f∈t.an.l,u3 d f)/\∀x∈t.ay.l,Good d x
theorem ET {d:ai}{f:Z6}(h:u3 d f):f.aa.length<=1048576/\f.az.l.length<=f.sz:=by
 have h1:=f.bA; have b:Bs.sz f.aa=f.aa.length+1:=rfl;have g:=Sl.dP (f:=Z7.sz) f.az (fun x=>x.pos);have j:=h.1;exact⟨by omega,by omega⟩
theorem Ke {d:ai}{t:ag}(h:BN d t):t.aa.length<=1048576/\t.ay.l.length+(t.an.l.map Z6.sz).sum<=t.sz:=by
 have h1:=t.bA; have b:Bs.sz t.aa=t.aa.length+1:=rfl;have g:=Sl.dP (f:=Z7.sz) t.ay (fun x=>x.pos);have j:=h.1;have k:Sl.sz Z6.sz t.an=1+(t.an.l.map Z6.sz).sum:=rfl;exact⟨by omega,by omega⟩
theorem BO {d:ai}{t:ag}{f:Z6}(h:u3 d f):(fF d t f).length<=f.sz:=by
 have:=BM (fun x:Z7=>je d x (ES (t.aa++[46]++f.aa) x.aa)) (fun x=>th _ _ _) f.az.l;have:=(ET h).2;unfold fF; omega
theorem Ty (d:ai) (t:ag) (h1:t.aa.length<=1048576):∀(l:List Z6) (s:Sl Z5),(∀f∈l,u3 d f)->s.l.length+(l.map Z6.sz).sum<=549755813888 ->
  ∃u,qP d t l s=some u/\u.l=s.l++l.flatMap (fF d t):=by
 intro l;induction l with
 | nil=>intro s _ _; exact⟨s,rfl,by simp⟩
 | cons a r j =>
  intro s hx k;simp only [List.map_cons,List.sum_cons] at k;have b:=hx a (by simp);obtain⟨f1,f2⟩:=ET b;rw [qP];simp only [Ab.on];obtain⟨u,m,g⟩:=Tv d t a h1 f1 a.az.l s b.2 (by omega);rw [m,oB];have hl:=BO (t:=t) b;obtain⟨w,p,q⟩:=j u (fun x v=>hx x (by simp [v])) (by rw [g,List.length_append]; unfold fF at hl; omega);exact⟨w,p,by rw [q,g,List.flatMap_cons,List.append_assoc]; rfl⟩
theorem Tz (d:ai) (t:ag) (h1:t.aa.length<=1048576):∀(l:List Z6) (s:Sl Z5),(∀f∈l,u3 d f)->s.l.length+(l.map Z6.sz).sum<=549755813888 ->
  ∃u,tq d t l s=some u/\u.l=s.l++l.flatMap (fF d t):=by
 intro l;induction l with
 | nil=>intro s _ _; exact⟨s,rfl,by simp⟩
 | cons a r j =>
  intro s hx k;simp only [List.map_cons,List.sum_cons] at k;have b:=hx a (by simp);obtain⟨f1,f2⟩:=ET b;rw [tq];simp only [Ab.on];rw [dI (by simp only [List.length_cons,List.length_nil]; omega),oB,dI (by simp only [List.length_append,List.length_cons,List.length_nil]; omega),oB];obtain⟨u,m,p⟩:=Kc d a.az (t.aa++[46]++a.aa) [40] [41] (by simp only [List.length_append,List.length_cons,List.length_nil]; omega) (by simp) (by simp) b.2 (by have:=b.1; omega)
  have hl:=BO (t:=t) b;have g:u.l=fF d t a:=p;rw [m,oB,jE (by decide) (by rw [g]; omega),oB];obtain⟨w,q,v⟩:=j ⟨s.nl&&u.l.isEmpty,s.l++u.l⟩ (fun x y=>hx x (by simp [y])) (by show (s.l++u.l).length+_<=_; rw [g,List.length_append]; omega);exact⟨w,q,by rw [v,g,List.flatMap_cons,List.append_assoc]⟩
theorem TA (d:ai):∀(l:List ag) (s:Sl Z5),(∀t∈l,BN d t)->s.l.length+(l.map ag.sz).sum<=549755813888->∃u,pG d l s=some u/\u.l=s.l++l.flatMap (fD d):=by
 intro l;induction l with
 | nil=>intro s _ _; exact⟨s,rfl,by simp⟩
 | cons a r m =>
  intro s hx p;simp only [List.map_cons,List.sum_cons] at p;have g:=hx a (by simp);obtain⟨f1,f2⟩:=Ke g;rw [pG];simp only [Ab.on];obtain⟨u,q,j⟩:=Ty d a f1 a.an.l s g.2.1 (by omega);have H:(a.an.l.flatMap (fF d a)).length<=(a.an.l.map Z6.sz).sum:=by
   have:∀l:List Z6,(∀f∈l,u3 d f)->(l.flatMap (fF d a)).length<=(l.map Z6.sz).sum:=by
    intro l;induction l with
    | nil=>intro _; simp
    | cons b t y=>intro h; have:=y fun f z=>h f (by simp [z]); have:=BO (t:=a) (h b (by simp)); simp only [List.flatMap_cons,List.length_append,List.map_cons,List.sum_cons]; omega
   exact this _ g.2.1
  rw [q,oB];obtain⟨v,B,k⟩:=Tw d a f1 a.ay.l u g.2.2 (by rw [j,List.length_append]; omega);rw [B,oB];have C:(fI d a).length<=a.ay.l.length:=BM _ (fun x=>th _ _ _) _;obtain⟨w,E,F⟩:=m v (fun x G=>hx x (by simp [G])) (by rw [k,j,List.length_append,List.length_append]; unfold fI at C; omega);exact⟨w,E,by rw [F,k,j,List.flatMap_cons]; unfold fD fI; simp only [List.append_assoc]⟩
theorem TB (d:ai):∀(l:List ag) (s:Sl Z5),(∀t∈l,BN d t)->s.l.length+(l.map ag.sz).sum<=549755813888->∃u,pH d l s=some u/\u.l=s.l++l.flatMap (fD d):=by
 intro l;induction l with
 | nil=>intro s _ _; exact⟨s,rfl,by simp⟩
 | cons a r m =>
  intro s hx p;simp only [List.map_cons,List.sum_cons] at p;have g:=hx a (by simp);have H:=g.1;obtain⟨f1,f2⟩:=Ke g;rw [pH];simp only [Ab.on];obtain⟨u,q,j⟩:=Tz d a f1 a.an.l s g.2.1 (by omega);have I:(a.an.l.flatMap (fF d a)).length<=(a.an.l.map Z6.sz).sum:=by
   have:∀l:List Z6,(∀f∈l,u3 d f)->(l.flatMap (fF d a)).length<=(l.map Z6.sz).sum:=by
    intro l;induction l with
    | nil=>intro _; simp
    | cons b t y=>intro h; have:=y fun f z=>h f (by simp [z]); have:=BO (t:=a) (h b (by simp)); simp only [List.flatMap_cons,List.length_append,List.map_cons,List.sum_cons]; omega
   exact this _ g.2.1
  rw [q,oB];obtain⟨v,B,C⟩:=Kc d a.ay a.aa [46] [] (by omega) (by simp) (by simp) g.2.2 (by omega);have k:v.l=fI d a:=by rw [C]; unfold fI; simp only [List.append_nil]
  have J:(fI d a).length<=a.ay.l.length:=BM _ (fun x=>th _ _ _) _;rw [B,oB,jE (by decide) (by rw [k,j,List.length_append]; omega),oB];obtain⟨w,E,F⟩:=m ⟨u.nl&&v.l.isEmpty,u.l++v.l⟩ (fun x G=>hx x (by simp [G])) (by show (u.l++v.l).length+_<=_; rw [k,j,List.length_append,List.length_append]; omega);exact⟨w,E,by rw [F,k,j,List.flatMap_cons]; unfold fD; simp only [List.append_assoc]⟩
theorem TC:nB+1<=1099511627000:=by unfold nB; omega
theorem TD (d:ai) (t:ag) (f:Z6):(fF d t f).length<=f.sz:=by
 have h1:=Ez f;have b:(fF d t f).length<=(f.az.l.map fun _=>1).sum:=qB (fun _=>th _ _ _) _;rw [Ey] at b; omega
theorem TE (d:ai) (t:ag):(fD d t).length<=t.sz:=by
 have h1:=t.bA;have g:=Sl.ja (f:=Z7.sz) t.ay Z7.pos;have b:(fI d t).length<=(t.ay.l.map fun _=>1).sum:=qB (fun _=>th _ _ _) _;rw [Ey] at b;have j:(t.an.l.flatMap (fF d t)).length<=(t.an.l.map Z6.sz).sum:=qB (TD d t) _;have k:Sl.sz Z6.sz t.an=1+(t.an.l.map Z6.sz).sum:=rfl;unfold fD;rw [List.length_append]; omega
theorem EU {d:ai}(k:d.sz<=1048576) (hw:d.wf):∀t∈d.aj.l,kK t:=by
 have p:=Rx k hw;have h0:=d.bA;have b:∀s:Bs,Bs.sz s=s.length+1:=fun _=>rfl;intro t ht;have h1:=Sl.dA (f:=ag.sz) ht;have q:=t.bA;rw [b] at q;refine⟨by omega,fun f j=>?_,fun m hm=>?_⟩
 ·have r:=Sl.dA (f:=Z6.sz) j;have g:=f.bA;rw [b] at g;refine⟨by omega,fun a u=>?_,((p t ht).2.2.1 f j).1⟩;have w:=Sl.dA (f:=Z7.sz) u;have v:=a.bA;rw [b] at v;omega
 ·have r:=Sl.dA (f:=Z8.sz) hm;have g:=m.bA;rw [b] at g;omega
theorem EV {s r:Sl Z5}(h:s.l.length+r.l.length<=5000000000000):bf 24 s r=some ⟨s.nl&&r.l.isEmpty,s.l++r.l⟩:=by
 unfold bf; rw [if_pos]; unfold cC; omega
theorem Kf:∀(l:List Z6) (s:Int),0<=s->s+((l.map Z6.sz).sum:Nat)<=1073741824->∃r,tr l s=some r/\s<=r/\r<=s+((l.map Z6.sz).sum:Nat)/\∀f∈l,s+(f.az.l.length:Nat)<=r
 | [],s,_,_=>⟨s,rfl,by omega,by simp,fun _ h=>by cases h⟩
 | f::l,s,h0,b=>by
  simp only [List.map_cons,List.sum_cons] at b ⊢;have h1:=f.bA;have j:=Sl.dP (f:=Z7.sz) f.az (fun x=>Z7.pos x);have k:=Sl.dP (f:=aD.sz) f.aM (fun x=>aD.pos x);rw [tr];simp only [Ab.on];rw [fQ (by omega),oB,fQ (by omega),oB];obtain⟨r,e,a1,a2,a3⟩:=Kf l (s+(((f.az.l.length:Nat):Int)+((f.aM.l.length:Nat):Int))) (by omega) (by omega)
  refine⟨r,e,by omega,by omega,fun g hg=>?_⟩;rcases List.mem_cons.1 hg with rfl|hg
  ·omega
  ·have:=a3 g hg; omega
theorem Kg:∀(l:List ag) (s:Int),0<=s->s+2*((l.map ag.sz).sum:Nat)<=1073741824->∃r,qQ l s=some r/\s<=r/\(r<=1000->∀x∈l,Sm x)
 | [],s,_,_=>⟨s,rfl,by omega,fun _ _ h=>by cases h⟩
 | x::l,s,h0,g=>by
  simp only [List.map_cons,List.sum_cons] at g;have h1:=x.bA;have p:=Sl.dP (f:=Z6.sz) x.an (fun x=>Z6.pos x);have q:=Sl.dP (f:=Z8.sz) x.au (fun x=>Z8.pos x);have t:=Sl.dP (f:=Z7.sz) x.ay (fun x=>Z7.pos x);have u:=Sl.dP (f:=aD.sz) x.aM (fun x=>aD.pos x);have v:=Sl.dP (f:=Bs.sz) x.aH (fun x=>Bs.lm x);have w:Sl.sz Z6.sz x.an=1+(x.an.l.map Z6.sz).sum:=rfl
  rw [qQ];simp only [Ab.on];rw [fQ (by omega),oB,fQ (by omega),oB,fQ (by omega),oB,fQ (by omega),oB,fQ (by omega),oB,fQ (by omega),oB];obtain⟨z,e,a1,a2,a3⟩:=Kf x.an.l _ (show 0<=s+((((((1:Int)+((x.an.l.length:Nat):Int))+((x.au.l.length:Nat):Int))+((x.ay.l.length:Nat):Int))+((x.aM.l.length:Nat):Int))+((x.aH.l.length:Nat):Int)) by omega) (by omega)
  rw [e,oB];obtain⟨r,j,B,k⟩:=Kg l z (by omega) (by omega);refine⟨r,j,by omega,fun hr y b=>?_⟩;rcases List.mem_cons.1 b with rfl|b
  ·exact⟨by omega,by omega,by omega,by omega,fun f m=>by have:=a3 f m; omega⟩
  ·exact k hr y b
theorem TF {d:ai}(j:d.sz<=1048576):∃b,zj d=some b/\(b=false->d.aj.l.length<=70/\∀x∈d.aj.l,Sm x):=by
 have h1:=d.bA;have k:Sl.sz ag.sz d.aj=1+(d.aj.l.map ag.sz).sum:=rfl;unfold zj;by_cases h:d.aj.l.length<=70
 ·rw [show decide ((70:Int)<((d.aj.l.length:Nat):Int))=false from dF (by omega),cond_false];obtain⟨r,e,m,f⟩:=Kg d.aj.l 0 (by omega) (by omega);rw [e,oB];simp only [Ab.on];exact⟨_,rfl,fun g=>⟨h,f (by have:=of_decide_eq_false g; omega)⟩⟩
 ·rw [show decide ((70:Int)<((d.aj.l.length:Nat):Int))=true from dT (by omega)];exact⟨true,rfl,fun h=>by cases h⟩
def aZ {α:Type}(l:List α):Sl α:=⟨l.isEmpty,l⟩
noncomputable def cK:Z9->Z9:=@Z9.rec (fun _=>Z9) (fun _=>List Z9) (fun k i t _ _ y b=>Z9.mk k i t b.isEmpty b y) [] (fun _ _ b f=>b::f)
theorem Kh (k i:Int) (t:Bs) (nl:Bool) (l:List Z9) (y:Sl Bs):cK (Z9.mk k i t nl l y)=Z9.mk k i t l.isEmpty (l.map cK) y:=by
 have key:∀l:List Z9,(@Z9.rec_1 (fun _=>Z9) (fun _=>List Z9) (fun k i t _ _ y b=>Z9.mk k i t b.isEmpty b y) [] (fun _ _ b f=>b::f) l:List Z9)=l.map cK:=by
  intro l;induction l with
  | nil=>rfl
  | cons a r b=>exact congrArg (cK a::·) b
 show Z9.mk k i t (List.isEmpty (@Z9.rec_1 (fun _=>Z9) (fun _=>List Z9) (fun k i t _ _ y b=>Z9.mk k i t b.isEmpty b y) [] (fun _ _ b f=>b::f) l)) (@Z9.rec_1 (fun _=>Z9) (fun _=>List Z9) (fun k i t _ _ y b=>Z9.mk k i t b.isEmpty b y) [] (fun _ _ b f=>b::f) l) y=_;rw [key];cases l<;>rfl
theorem qR (v:Z9):cK v=Z9.mk v.ak v.bz v.br v.aG.l.isEmpty (v.aG.l.map cK) v.aW:=by cases v; exact Kh ..
noncomputable def j7 (x:bU):bU:=bU.mk x.aa (cK x.ir)
noncomputable def eX (x:aD):aD:=aD.mk x.aa (aZ (x.az.l.map j7))
noncomputable def b8 (x:Z7):Z7:=Z7.mk x.aa x.ax x.b_ (cK x.dm) (aZ (x.aM.l.map eX))
noncomputable def cA (x:Z6):Z6:=Z6.mk x.aa (aZ (x.az.l.map b8)) x.ax (aZ (x.aM.l.map eX))
noncomputable def eF (x:Z8):Z8:=Z8.mk x.aa (aZ (x.aM.l.map eX))
noncomputable def bh (t:ag):ag:=ag.mk t.ak t.aa (aZ t.aH.l) (aZ (t.aM.l.map eX)) (aZ (t.an.l.map cA)) (aZ (t.au.l.map eF)) (aZ (t.ay.l.map b8))
theorem kU {α:Type}{z:Nat}{s:List α}{x:α}(hz:z<=200) (h:s.length+1<=10000000):bf z (aZ s) (⟨false,[x]⟩:Sl α)=some (aZ (s++[x])):=by
 unfold bf; rw [if_pos]
 ·unfold aZ; simp
 ·have:((aZ s).l.length+[x].length)*z<=((aZ s).l.length+[x].length)*200:=Nat.mul_le_mul_left _ hz;simp only [aZ,List.length_cons,List.length_nil] at this ⊢;unfold cC; omega
theorem Ki (s:Sl Bs) (h:s.nl=true->s.l=[]) (hl:s.l.length<=1048576):qC s=some s:=by
 unfold qC;obtain⟨nl,l⟩:=s;cases nl with
 | true=>have:=h rfl; simp only at this; subst this; rfl
 | false =>
  simp only [cond_false];rw [jE (by omega) (by simp at hl ⊢; omega)];simp
theorem Kj (s:Sl Int) (h:s.nl=true->s.l=[]) (hl:s.l.length<=1048576):oV s=some s:=by
 unfold oV;obtain⟨nl,l⟩:=s;cases nl with
 | true=>have:=h rfl; simp only at this; subst this; rfl
 | false =>
  simp only [cond_false];rw [jE (by omega) (by simp at hl ⊢; omega)];simp
theorem Kk {rec:Z9->Option Z9}:∀(l:List Z9) (s:List Z9),(∀x∈l,rec x=some (cK x))->s.length+l.length<=5000000->nU rec l (aZ s)=some (aZ (s++l.map cK))
 | [],s,_,_=>by rw [nU,List.map_nil,List.append_nil]
 | x::l,s,hx,hl=>by
  rw [List.length_cons] at hl;rw [nU];simp only [Ab.on];rw [hx x (.head _),oB,kU (by omega) (by omega),oB,Kk l (s++[cK x]) (fun y b=>hx y (.tail _ b)) (by simp; omega),List.append_assoc]; rfl
theorem Kl:∀(n:Nat) (v:Z9),2*v.sz+2<=n->v.sz<=1048576->v.wf->kL n v=some (cK v)
 | 0,_,h,_,_=>by omega
 | 1,v,h,_,_=>by have:=v.bA; omega
 | n+2,v,h,g,hw=>by
  have j:=v.bA;have hlen:v.aG.l.length<=1048576:=by have:=Sl.dP (f:=Z9.sz) v.aG (fun x=>x.pos); omega
  have b:v.aW.l.length<=1048576:=by have:=Sl.dP (f:=Bs.sz) v.aW (fun x=>Bs.lm x); omega
  have e:=Kk (rec:=kL n) v.aG.l [] (fun x hx=>by
   have:=Z9.mg hx;exact Kl n x (by omega) (by omega) ((Z9.DS hw).2.2 x hx)) (by simp; omega)
  rw [List.nil_append] at e;rw [kL,wH];simp only [Ab.on];rw [show (Sl.nil:Sl Z9)=aZ [] from rfl,e];simp only [oB];rw [Ki _ (Z9.Ib hw).1 b,oB,qR];unfold aZ;cases v.aG.l<;>rfl
theorem Km {v:Z9}(b:v.sz<=1048576) (hw:v.wf):qE v=some (cK v):=by unfold qE; exact Kl F0 v (by rw [gz]; omega) b hw
theorem BP {α:Type}{p:α->Prop}{l:List α}(hl:l.length<=cC) (h:∀x∈l,p x):Sl.wf p (aZ l):=⟨fun e=>by unfold aZ at e ⊢; exact List.isEmpty_iff.1 e,hl,h⟩
theorem TG {α:Type}{f:α->Nat}(l:List α):Sl.sz f (aZ l)=1+(l.map f).sum:=rfl
theorem zk {α:Type}{f:α->Nat}{c:α->α}:∀{l:List α},(∀x∈l,f (c x)=f x)->((l.map c).map f).sum=(l.map f).sum
 | [],_=>rfl
 | x::l,h=>by simp only [List.map_cons,List.sum_cons,h x (.head _),zk fun y b=>h y (.tail _ b)]
theorem qS {α:Type}{f:α->Nat}{c:α->α}(s:Sl α) (h:∀x∈s.l,f (c x)=f x):Sl.sz f (aZ (s.l.map c))=Sl.sz f s:=by rw [TG,zk h]; rfl
theorem qU {α:Type}{p:α->Prop}{c:α->α}{s:Sl α}(b:Sl.wf p s) (h:∀x∈s.l,p (c x)):Sl.wf p (aZ (s.l.map c)):=BP (by rw [List.length_map]; exact b.2.1) (fun y f=>by obtain⟨x,hx,rfl⟩:=List.mem_map.1 f; exact h x hx)
theorem EW:∀(n:Nat) (v:Z9),v.sz<=n->(cK v).sz=v.sz
 | 0,v,h=>by have:=v.pos; omega
 | n+1,v,h=>by
  rw [qR,Z9.bA,Z9.bA v];show 0+1+1+Bs.sz v.br+Sl.sz Z9.sz (⟨_,v.aG.l.map cK⟩:Sl Z9)+Sl.sz Bs.sz v.aW=_;rw [show Sl.sz Z9.sz (⟨v.aG.l.isEmpty,v.aG.l.map cK⟩:Sl Z9)=1+((v.aG.l.map cK).map Z9.sz).sum from rfl,zk fun x hx=>EW n x (by have:=Z9.mg hx; omega)];rfl
theorem EX:∀(n:Nat) (v:Z9),v.sz<=n->v.wf->(cK v).wf
 | 0,v,h,_=>by have:=v.pos; omega
 | n+1,v,h,hw=>by
  rw [qR,Z9.ux];have h1:i64 v.ak:=Z9.Qg hw;have b:i64 v.bz:=Z9.Qh hw;have f:Sl.wf (fun _=>True) v.aW:=Z9.Ib hw;refine⟨h1,b,trivial, ?_,f,trivial⟩;refine⟨fun e=>?_, ?_,fun y g=>?_⟩
  ·have e:v.aG.l.isEmpty=true:=e;show v.aG.l.map cK=[];rw [List.isEmpty_iff.1 e]; rfl
  ·show (v.aG.l.map cK).length<=_;rw [List.length_map]; exact(Z9.DS hw).2.1
  ·obtain⟨x,hx,rfl⟩:=List.mem_map.1 g;exact EX n x (by have:=Z9.mg hx; omega) ((Z9.DS hw).2.2 x hx)
theorem TH (x:bU):(j7 x).sz=x.sz:=by rw [bU.bA,bU.bA x]; show _+(cK x.ir).sz=_; rw [EW _ _ (Nat.le_refl _)]; rfl
theorem BQ (x:aD):(eX x).sz=x.sz:=by rw [aD.bA,aD.bA x]; show _+Sl.sz bU.sz (aZ (x.az.l.map j7))=_; rw [qS _ fun x _=>TH x]; rfl
theorem EY (x:Z7):(b8 x).sz=x.sz:=by rw [Z7.bA,Z7.bA x]; show _+(cK x.dm).sz+Sl.sz aD.sz (aZ (x.aM.l.map eX))=_; rw [EW _ _ (Nat.le_refl _),qS _ fun x _=>BQ x]; rfl
theorem TJ (x:Z6):(cA x).sz=x.sz:=by rw [Z6.bA,Z6.bA x]; show 0+Bs.sz x.aa+Sl.sz Z7.sz (aZ (x.az.l.map b8))+aL.sz x.ax+Sl.sz aD.sz (aZ (x.aM.l.map eX))=_; rw [qS _ fun x _=>BQ x,qS _ fun x _=>EY x]
theorem TL (x:Z8):(eF x).sz=x.sz:=by rw [Z8.bA,Z8.bA x]; show _+Sl.sz aD.sz (aZ (x.aM.l.map eX))=_; rw [qS _ fun x _=>BQ x]; rfl
theorem EZ (x:ag):(bh x).sz=x.sz:=by
 rw [ag.bA,ag.bA x];show 0+1+Bs.sz x.aa+Sl.sz Bs.sz (aZ x.aH.l)+Sl.sz aD.sz (aZ (x.aM.l.map eX))+Sl.sz Z6.sz (aZ (x.an.l.map cA))+Sl.sz Z8.sz (aZ (x.au.l.map eF))+Sl.sz Z7.sz (aZ (x.ay.l.map b8))=_;rw [qS _ fun x _=>BQ x,qS _ fun x _=>TJ x,qS _ fun x _=>TL x,qS _ fun x _=>EY x];rfl
theorem TM {x:bU}(h:x.wf):(j7 x).wf:=⟨trivial,EX _ _ (Nat.le_refl _) (bU.Ic h),trivial⟩
theorem BR {x:aD}(h:x.wf):(eX x).wf:=⟨trivial,qU (aD.l9 h) fun a b=>TM ((aD.l9 h).2.2 a b),trivial⟩
theorem Kn {x:Z7}(h:x.wf):(b8 x).wf:=⟨trivial,h.2.1,trivial,EX _ _ (Nat.le_refl _) (Z7.Ig h),qU (Z7.jm h) fun a b=>BR ((Z7.jm h).2.2 a b),trivial⟩
theorem TN {x:Z6}(h:x.wf):(cA x).wf:=⟨trivial,qU (Z6.l9 h) fun a b=>Kn ((Z6.l9 h).2.2 a b),h.2.2.1,qU (Z6.jm h) fun a b=>BR ((Z6.jm h).2.2 a b),trivial⟩
theorem TO {x:Z8}(h:x.wf):(eF x).wf:=⟨trivial,qU (Z8.jm h) fun a b=>BR ((Z8.jm h).2.2 a b),trivial⟩
theorem Ko {x:ag}(h:x.wf):(bh x).wf:=⟨h.1,trivial,BP (ag.vR h).2.1 (fun _ _=>trivial),qU (ag.jm h) fun a b=>BR ((ag.jm h).2.2 a b),qU (ag.qh h) fun a b=>TN ((ag.qh h).2.2 a b),qU (ag.rW h) fun a b=>TO ((ag.rW h).2.2 a b),qU (ag.uy h) fun a b=>Kn ((ag.uy h).2.2 a b),trivial⟩
theorem Kp (n:Bs):∀(l s:List bU),(∀x∈l,x.sz<=1048576/\x.wf)->s.length+l.length<=5000000->qV l (aD.mk n (aZ s))=some (aD.mk n (aZ (s++l.map j7)))
 | [],s,_,_=>by rw [qV,List.map_nil,List.append_nil]
 | x::l,s,hx,hl=>by
  rw [List.length_cons] at hl;rw [qV];simp only [Ab.on];have:=x.bA;rw [Km (by have:=(hx x (.head _)).1; omega) (bU.Ic (hx x (.head _)).2),oB,kU (by omega) (by omega),oB,Kp n l (s++[_]) (fun y b=>hx y (.tail _ b)) (by simp; omega),List.append_assoc]; rfl
theorem Kq:∀(l s:List aD),(∀x∈l,x.sz<=1048576/\x.wf)->s.length+l.length<=5000000->nZ l (aZ s)=some (aZ (s++l.map eX))
 | [],s,_,_=>by rw [nZ,List.map_nil,List.append_nil]
 | x::l,s,hx,hl=>by
  rw [List.length_cons] at hl;rw [nZ];simp only [Ab.on];have h1:=(hx x (.head _)).1;have j:=x.bA;have k:=Sl.dP (f:=bU.sz) x.az bU.pos;rw [show (Sl.nil:Sl bU)=aZ [] from rfl,Kp x.aa x.az.l [] (fun a b=>⟨by have:=Sl.dA (f:=bU.sz) b; omega,(aD.l9 (hx x (.head _)).2).2.2 a b⟩) (by simp; omega),oB,kU (by omega) (by omega),oB,Kq l (s++[_]) (fun y g=>hx y (.tail _ g)) (by simp; omega),List.append_assoc]; rfl
theorem BT {s:Sl aD}(h:Sl.sz aD.sz s<=1048576) (hw:Sl.wf aD.wf s):qW s=some (aZ (s.l.map eX)):=by
 unfold qW;have g:=Sl.dP (f:=aD.sz) s aD.pos;rw [show (Sl.nil:Sl aD)=aZ [] from rfl,Kq s.l [] (fun a b=>⟨by have:=Sl.dA (f:=aD.sz) b; omega,hw.2.2 a b⟩) (by simp; omega)]; rfl
theorem Kr:∀(l s:List Z7),(∀x∈l,x.sz<=1048576/\x.wf)->s.length+l.length<=5000000->lN l (aZ s)=some (aZ (s++l.map b8))
 | [],s,_,_=>by rw [lN,List.map_nil,List.append_nil]
 | x::l,s,hx,hl=>by
  rw [List.length_cons] at hl;rw [lN];simp only [Ab.on];obtain⟨h1,hw⟩:=hx x (.head _);have f:=x.bA;have g:=x.ax.uH;rw [Kj _ (aL.Ie (Z7.vQ hw)).1 (by omega),oB,Km (by omega) (Z7.Ig hw),oB,BT (by omega) (Z7.jm hw),oB,kU (by omega) (by omega),oB,Kr l (s++[_]) (fun y b=>hx y (.tail _ b)) (by simp; omega),List.append_assoc]; rfl
theorem Ks {s:Sl Z7}(h:Sl.sz Z7.sz s<=1048576) (hw:Sl.wf Z7.wf s):u4 s=some (aZ (s.l.map b8)):=by
 unfold u4;have g:=Sl.dP (f:=Z7.sz) s Z7.pos;rw [show (Sl.nil:Sl Z7)=aZ [] from rfl,Kr s.l [] (fun a b=>⟨by have:=Sl.dA (f:=Z7.sz) b; omega,hw.2.2 a b⟩) (by simp; omega)]; rfl
theorem TP {d e:ai}(m:d.aj.l.length<=1048576) (he:e.aj.l.length<=1048576){a b:aL}(f:ep a.aK) (g:ep b.aK) (p:jd e b.aa a.aa=jd d b.aa a.aa):lF e a b=lF d a b:=by
 have h1:=f.2; have q:=g.2;obtain⟨v,hv,hw⟩:=BB m he F0 a b f.2 g.2 p (by rw [gz]; omega);have j:=(Bv m f g).2;have k:=(Bv he f g).2;unfold Ev at j k;rw [hv] at j; rw [hw] at k;rw [<- oJ j,<- oJ k]
def u6 (l:List Z6):List Bs:=l.flatMap fun f=>f.ax.aa::f.az.l.map fun a=>a.ax.aa
def zl (d:ai) (t:ag) (n:Bs):List Bs:=u6 t.an.l++(t.ay.l.map (fun a=>a.ax.aa)++((if t.ak=3 then t.au.l.map Z8.aa else [])++(t.aH.l++(if t.ak=2 then(d.aj.l.filter fun x=>x.aH.l.contains n).map ag.aa else []))))
def tt (d:ai) (n:Bs):Bool:=(bg d.aj.l n).2
def sc (d:ai) (n:Bs):List Bs:=zl d (bg d.aj.l n).1 n
def Rd (_:ai) (_:Bs):Prop:=True
def TQ (_:ai) (_:Bs):Bool:=true
theorem Rd.step {d:ai}{b c:Bs}(_:Rd d b) (_:tt d b=true) (_:c∈sc d b):Rd d c:=trivial
def n9 (d:ai):List ag:=d.aj.l.filter fun t=>TQ d t.aa
theorem pI (d:ai):n9 d=d.aj.l:=List.filter_eq_self.2 fun _ _=>rfl
noncomputable def dB (d:ai):ai:=ai.mk (aZ ((n9 d).map bh))
theorem BU (a:ag) (r:List ag) (n:Bs):bg (a::r) n=if a.aa=n then(a,true) else bg r n:=by
 unfold bg;rw [List.find?_cons];by_cases h:a.aa=n
 ·rw [beq_iff_eq.2 h,if_pos h]
 ·rw [beq_eq_false_iff_ne.2 h,if_neg h]
theorem Kt {n:Bs}:∀l:List ag,bg (l.map bh) n=(bh (bg l n).1,(bg l n).2)
 | []=>rfl
 | a::r=>by
  rw [List.map_cons,BU a r n,BU];by_cases b:a.aa=n
  ·rw [if_pos b,if_pos (show (bh a).aa=n from b)]
  ·rw [if_neg b,if_neg (show ¬(bh a).aa=n from b)]; exact Kt r
theorem oa {d:ai}{n:Bs}(_:Rd d n):bg (dB d).aj.l n=(bh (bg d.aj.l n).1,(bg d.aj.l n).2):=by
 show bg ((n9 d).map bh) n=_;rw [pI]; exact Kt d.aj.l
theorem Ku {d:ai}{n:Bs}(h:tt d n=true):(bg d.aj.l n).1∈d.aj.l/\(bg d.aj.l n).1.aa=n:=by
 unfold tt bg at h;unfold bg;cases e:d.aj.l.find? (fun t=>t.aa==n) with
 | none=>rw [e] at h; cases h
 | some t =>
  have h1:=List.find?_some e;exact⟨List.mem_of_find?_eq_some e,beq_iff_eq.1 h1⟩
theorem E0 {d:ai}{t:ag}:t∈n9 d↔t∈d.aj.l/\Rd d t.aa:=by
 rw [pI]; exact⟨fun h=>⟨h,trivial⟩,fun h=>h.1⟩
theorem TR (d:ai):(dB d).sz<=d.sz:=by
 rw [ai.bA,ai.bA d];show 0+(1+(((n9 d).map bh).map ag.sz).sum)<=0+(1+(d.aj.l.map ag.sz).sum);rw [pI,zk fun x _=>EZ x];omega
theorem TS {d:ai}(h:d.wf):(dB d).wf:=by
 refine⟨BP ?_ fun x hx=>?_,trivial⟩
 ·rw [List.length_map,pI];exact(ai.DT h).2.1
 ·obtain⟨t,ht,rfl⟩:=List.mem_map.1 hx;exact Ko ((ai.DT h).2.2 t (E0.1 ht).1)
theorem TT {d:ai}{n:Bs}(h:Rd d n):iQ (dB d) n=iQ d n:=by
 rw [<- Eh,<- Eh];unfold jH rZ;simp only [Ab.on,jY,oa h];rfl
theorem Kv {d:ai}{n:Bs}(h:Rd d n):jH (dB d) n=jH d n:=by
 unfold jH rZ;simp only [Ab.on,jY,oa h];rfl
theorem Kw {d:ai}{n:Bs}(h:Rd d n) (a:Bs) (k:Int):lC (dB d) n a k=lC d n a k:=by
 unfold lC;rw [oa h,TT h]; rfl
theorem E1 {d:ai}(a b:Bs):∀(l:List Z7) (s:List Bs),(∀x∈l,Rd d x.ax.aa)->jc (dB d) a b s (l.map b8)=jc d a b s l
 | [],_,_=>rfl
 | x::l,s,h=>by
  rw [List.map_cons,jc,jc,show (b8 x).aa=x.aa from rfl,show (b8 x).ax=x.ax from rfl,Kw (h x (.head _)),E1 a b l _ fun y f=>h y (.tail _ f)]
theorem Ky {d:ai}(b:Bs):∀(l:List Z6) (s:List Bs),(∀y∈u6 l,Rd d y)->mo (dB d) b s (l.map cA)=mo d b s l
 | [],_,_=>rfl
 | x::l,s,h=>by
  have g:u6 (x::l)=x.ax.aa::(x.az.l.map (fun a=>a.ax.aa)++u6 l):=by simp [u6]
  rw [g] at h;rw [List.map_cons,mo,mo,show (cA x).aa=x.aa from rfl,show (cA x).ax=x.ax from rfl,show (cA x).az.l=x.az.l.map b8 from rfl,Kw (h _ (.head _)),
   E1 _ _ x.az.l _ fun y f=>h _ (.tail _ (List.mem_append.2 (.inl (List.mem_map.2 ⟨y,f,rfl⟩)))),Ky b l _ fun y f=>h y (.tail _ (List.mem_append.2 (.inr f)))]
theorem Kz (b:Bs):∀(l:List Z8) (s:List Bs),kD b s (l.map eF)=kD b s l
 | [],_=>rfl
 | x::l,s=>by rw [List.map_cons,kD,kD,show (eF x).aa=x.aa from rfl,Kz b l]
theorem TU {d:ai}{t:ag}(h:bg d.aj.l t.aa=(t,true)):sc d t.aa=zl d t t.aa:=by unfold sc; rw [h]
theorem TV {d:ai}{t:ag}(h:bg d.aj.l t.aa=(t,true)):tt d t.aa=true:=by unfold tt; rw [h]
structure Kd (d:ai) (t:ag):Prop where
 f:∀y∈u6 t.an.l,Rd d y
 i:∀x∈t.ay.l,Rd d x.ax.aa
 m:t.ak=3->∀x∈t.au.l,Rd d x.aa
 p:∀y∈t.aH.l,Rd d y
 o:t.ak=2->∀x∈d.aj.l,x.aH.l.contains t.aa=true->Rd d x.aa
theorem E2 {d:ai}{t:ag}(h:bg d.aj.l t.aa=(t,true)) (hr:Rd d t.aa):Kd d t:=by
 have st:∀y∈zl d t t.aa,Rd d y:=fun y b=>hr.step (TV h) (by rw [TU h]; exact b);unfold zl at st;refine⟨fun y b=>st y (List.mem_append.2 (.inl b)),fun x hx=>st _ (List.mem_append.2 (.inr (List.mem_append.2 (.inl (List.mem_map.2 ⟨x,hx,rfl⟩))))),fun hk x hx=>?_,fun y b=>?_,fun hk x hx hc=>?_⟩
 ·refine st _ (List.mem_append.2 (.inr (List.mem_append.2 (.inr (List.mem_append.2 (.inl ?_))))));rw [if_pos hk]; exact List.mem_map.2 ⟨x,hx,rfl⟩
 ·exact st _ (List.mem_append.2 (.inr (List.mem_append.2 (.inr (List.mem_append.2 (.inr (List.mem_append.2 (.inl b))))))))
 ·refine st _ (List.mem_append.2 (.inr (List.mem_append.2 (.inr (List.mem_append.2 (.inr (List.mem_append.2 (.inr ?_))))))));rw [if_pos hk]; exact List.mem_map.2 ⟨x,List.mem_filter.2 ⟨hx,hc⟩,rfl⟩
theorem TW {d:ai}{t:ag}(h:Kd d t):nH (dB d) (bh t)=nH d t:=by
 unfold nH;rw [show (bh t).ak=t.ak from rfl,show (bh t).aa=t.aa from rfl,show (bh t).an.l=t.an.l.map cA from rfl,show (bh t).au.l=t.au.l.map eF from rfl,show (bh t).ay.l=t.ay.l.map b8 from rfl,
  Ky _ _ _ h.f,Kz,E1 _ _ _ _ h.i]
theorem BV {d:ai}{own:Bs}{x:Z7}(h:Rd d x.ax.aa):gd (dB d) own (b8 x)=gd d own x:=by
 unfold gd;rw [show (b8 x).ax=x.ax from rfl,oa h]; rfl
theorem KA {d:ai}{n:Bs}(h:Rd d n):jo (dB d) n=(jo d n).map b8:=by unfold jo; rw [oa h]; rfl
theorem TX {d:ai}{n:Bs}(h:Rd d n):∀x∈jo d n,Rd d x.ax.aa:=fun x hx=>by
 cases b:tt d n
 ·unfold jo at hx;rw [uQ b] at hx;cases hx
 ·refine h.step b ?_;unfold sc zl;exact List.mem_append.2 (.inr (List.mem_append.2 (.inl (List.mem_map.2 ⟨x,hx,rfl⟩))))
theorem TY {d:ai}{own:Bs}{l:List Z7}(hl:∀x∈l,Rd d x.ax.aa){n:Bs}(h:fz (dB d) own (l.map b8) n):fz d own l n/\Rd d n:=by
 induction h with
 | here hx hg =>
  obtain⟨x,b,rfl⟩:=List.mem_map.1 hx;rw [BV (hl x b)] at hg;exact⟨fz.here (x:=x) b hg,hl x b⟩
 | step _ hx hg g =>
  obtain⟨j,f⟩:=g;rw [KA f] at hx;obtain⟨x,b,rfl⟩:=List.mem_map.1 hx;have hr:=TX f x b;rw [BV hr] at hg;exact⟨fz.step (x:=x) j b hg,hr⟩
theorem TZ {d:ai}{own:Bs}{l:List Z7}{n:Bs}(h:fz d own l n):fz (dB d) own (l.map b8) n:=by
 induction h with
 | here hx hg=>exact fz.here (x:=b8 _) (List.mem_map_of_mem hx) (by rw [BV trivial]; exact hg)
 | step _ hx hg b=>exact fz.step (x:=b8 _) b (by rw [KA trivial]; exact List.mem_map_of_mem hx) (by rw [BV trivial]; exact hg)
theorem T0 (d:ai) (t:ag):kC (dB d) (bh t)=kC d t:=by
 unfold kC;exact decide_eq_decide.2 ⟨fun h=>(TY (fun _ _=>trivial) h).1,fun h=>TZ h⟩
theorem T1 {b:Bool}{e:Int}{a:Bs}:b7 b e a=[]↔b=false:=by unfold b7; cases b<;>simp
theorem T2 (d:ai) (t:ag) (s:List Bs):lD (dB d) s (bh t)=lD d s t:=by
 unfold lD;rw [T0,show sU (bh t)=sU t from by
  unfold sU;rw [show (bh t).ak=t.ak from rfl,show (bh t).an.l=t.an.l.map cA from rfl,show (bh t).au.l=t.au.l.map eF from rfl,show (bh t).ay.l=t.ay.l.map b8 from rfl,List.length_map,List.length_map,List.length_map]]
 rfl
theorem T3 (d:ai) (t:ag):Kd d t:=⟨fun _ _=>trivial,fun _ _=>trivial,fun _ _ _=>trivial,fun _ _=>trivial,fun _ _ _ _=>trivial⟩
theorem KB (d:ai):∀(l:List ag) (s:List Bs),jq (dB d) s (l.map bh)=jq d s l
 | [],_=>rfl
 | t::r,s=>by rw [List.map_cons,jq,jq,T2,TW (T3 d t),show (bh t).aa=t.aa from rfl,KB d r]
theorem KC {d:ai}:∀(l:List ag) (s:List Bs),jq d s l=[]->∀t∈l,t.aa∉s/\bg l t.aa=(t,true)
 | [],_,_,_,h=>(by cases h)
 | a::r,s,h,t,ht=>by
  rw [jq] at h;simp only [List.append_eq_nil_iff] at h;obtain⟨h1,_,f⟩:=h;unfold lD at h1;simp only [List.append_eq_nil_iff,T1] at h1;have g:=(Bool.or_eq_false_iff.1 h1.1.2).1;rcases List.mem_cons.1 ht with rfl|ht
  ·exact⟨by simpa using g,by rw [BU,if_pos rfl]⟩
  ·obtain⟨j,k⟩:=KC r _ f t ht;have b:t.aa∉s/\t.aa≠a.aa:=by simpa using j
   exact⟨b.1,by rw [BU,if_neg (fun e=>b.2 e.symm)]; exact k⟩
theorem KD (d:ai):jr (dB d) true=jr d true:=by
 unfold jr;rw [show (dB d).aj.l=(n9 d).map bh from rfl,pI,KB,show bg ((d.aj.l).map bh)=bg (dB d).aj.l from by unfold dB; rw [pI]; rfl,oa trivial]
theorem T4 {d:ai}(h:jr d true=[]):∀t∈d.aj.l,bg d.aj.l t.aa=(t,true):=fun t ht=>by
 unfold jr at h;simp only [List.append_eq_nil_iff] at h;exact(KC d.aj.l [] h.1 t ht).2
theorem wO {α β:Type}{f g:α->List β}:∀{l:List α},(∀x∈l,f x=g x)->l.flatMap f=l.flatMap g
 | [],_=>rfl
 | a::l,h=>by rw [List.flatMap_cons,List.flatMap_cons,h a (.head _),wO fun x hx=>h x (.tail _ hx)]
theorem T5 {d:ai}{a n:Bs}(b:Rd d a) (hn:Rd d n):jd (dB d) a n=jd d a n:=by
 unfold jd;rw [oa b,oa hn];simp only [show ∀t,(bh t).ak=t.ak from fun _=>rfl,show ∀t,(bh t).aH.l=t.aH.l from fun _=>rfl,show ∀t,(bh t).au.l=t.au.l.map eF from fun _=>rfl,List.any_map];rfl
theorem KE {d:ai}{n:Bs}(h:Rd d n) (k:Int):fh (dB d) n k=fh d n k:=by
 unfold fh;rw [oa h]; rfl
theorem T6:b8 Z7.zero=Z7.zero:=by
 unfold b8;rw [qR]; rfl
theorem BW (n:Bs):∀l:List Z7,dz (l.map b8) n=(b8 (dz l n).1,(dz l n).2)
 | []=>by show (Z7.zero,false)=(b8 Z7.zero,false); rw [T6]
 | a::r=>by
  have b:=BW n r;unfold dz at b ⊢;rw [List.map_cons,List.find?_cons,List.find?_cons,show (b8 a).aa=a.aa from rfl];cases a.aa==n
  ·exact b
  ·rfl
theorem KF (n:Bs):∀l:List Z6,eW (l.map cA) n=(cA (eW l n).1,(eW l n).2)
 | []=>rfl
 | a::r=>by
  have b:=KF n r;unfold eW at b ⊢;rw [List.map_cons,List.find?_cons,List.find?_cons,show (cA a).aa=a.aa from rfl];cases a.aa==n
  ·exact b
  ·rfl
theorem KG (p:Bs) (y:Z6):∀l:List Z7,lG p (cA y) (l.map b8)=lG p y l
 | []=>rfl
 | a::r=>by
  have b:=KG p y r;unfold lG at b ⊢;rw [List.map_cons,List.flatMap_cons,List.flatMap_cons,b,show (cA y).az.l=y.az.l.map b8 from rfl,show (b8 a).aa=a.aa from rfl,BW];rfl
theorem KH (p:Bs) (x:Z6):∀l:List Z7,nL p (cA x) (l.map b8)=nL p x l
 | []=>rfl
 | a::r=>by
  have b:=KH p x r;unfold nL at b ⊢;rw [List.map_cons,List.flatMap_cons,List.flatMap_cons,b,show (cA x).az.l=x.az.l.map b8 from rfl,show (b8 a).aa=a.aa from rfl,BW];rfl
theorem KI {l:List Z6}{f:Z6}(h:f∈l):f.ax.aa∈u6 l:=List.mem_flatMap.2 ⟨f,h,.head _⟩
theorem T7 {l:List Z6}{n:Bs}(h:(eW l n).2=true):(eW l n).1∈l:=by
 unfold eW at h ⊢;cases e:l.find? (fun t=>t.aa==n) with
 | none=>rw [e] at h; cases h
 | some t=>exact List.mem_of_find?_eq_some e
theorem T8 {d:ai}(hl:d.aj.l.length<=1048576){t:ag}{x:Z6}(ht:∀f∈t.an.l,Rd d f.ax.aa/\ep f.ax.aK) (hx:Rd d x.ax.aa/\ep x.ax.aK):mz (dB d) (bh t) (cA x)=mz d t x:=by
 unfold mz;rw [show (bh t).an.l=t.an.l.map cA from rfl,show (cA x).aa=x.aa from rfl,KF];simp only [show (bh t).aa=t.aa from rfl,show ∀f,(cA f).ax=f.ax from fun _=>rfl,show (cA x).az.l=x.az.l.map b8 from rfl,show ∀f,(cA f).az.l=f.az.l.map b8 from fun _=>rfl,KG,KH];cases b:(eW t.an.l x.aa).2
 ·simp only [Bool.not_false,cond_true]
 ·obtain⟨h1,g⟩:=ht _ (T7 b);have j:(dB d).aj.l.length<=1048576:=by
   show ((n9 d).map bh).length<=_;rw [List.length_map];exact Nat.le_trans (List.length_filter_le _ _) hl
  rw [TP hl j g hx.2 (T5 hx.1 h1)]
theorem KJ {d:ai}(hl:d.aj.l.length<=1048576){t:ag}(ht:∀f∈t.an.l,Rd d f.ax.aa/\ep f.ax.aK):∀l:List Z6,(∀f∈l,Rd d f.ax.aa/\ep f.ax.aK)->mA (dB d) (bh t) (l.map cA)=mA d t l
 | [],_=>rfl
 | a::r,h=>by
  have b:=KJ hl ht r fun f g=>h f (.tail _ g);unfold mA at b ⊢;rw [List.map_cons,List.flatMap_cons,List.flatMap_cons,b,T8 hl ht (h a (.head _))]
structure Gd (d:ai):Prop where
 l:d.aj.l.length<=1048576
 f:∀t∈d.aj.l,bg d.aj.l t.aa=(t,true)
 s:∀t∈d.aj.l,∀f∈t.an.l,ep f.ax.aK
theorem T9 {d:ai}(g:Gd d){n:Bs}(h:Rd d n):∀f∈(bg d.aj.l n).1.an.l,Rd d f.ax.aa/\ep f.ax.aK:=fun f b=>by
 cases j:tt d n
 ·rw [uQ j] at b; cases b
 ·obtain⟨h1,k⟩:=Ku j;exact⟨(E2 (g.f _ h1) (by rw [k]; exact h)).f _ (KI b),g.s _ h1 f b⟩
theorem KK {d:ai}(g:Gd d){t:ag}(ht:∀f∈t.an.l,Rd d f.ax.aa/\ep f.ax.aK):∀(l s:List Bs),(∀n∈l,Rd d n)->lH (dB d) (bh t) s l=lH d t s l
 | [],_,_=>rfl
 | n::r,s,h=>by
  have hn:=h n (.head _);rw [lH,lH,KK g ht r _ fun m hm=>h m (.tail _ hm)];unfold gA;rw [KE hn,oa hn,show (bh t).aa=t.aa from rfl];simp only [show ∀t,(bh t).an.l=t.an.l.map cA from fun _=>rfl];rw [KJ g.l ht _ (T9 g hn)]
theorem KL {d:ai}{t:ag}:∀(l:List Z8) (s:List Bs),(∀m∈l,Rd d m.aa)->mB (dB d) (bh t) s (l.map eF)=mB d t s l
 | [],_,_=>rfl
 | m::r,s,h=>by
  rw [List.map_cons,mB,mB,KL r _ fun m hm=>h m (.tail _ hm)];unfold gA;rw [show (eF m).aa=m.aa from rfl,KE (h m (.head _)),show (bh t).aa=t.aa from rfl]
theorem T_ {d:ai}(g:Gd d){t:ag}(h:t∈d.aj.l) (hr:Rd d t.aa):pn (dB d) (bh t)=pn d t:=by
 have hk:=E2 (g.f t h) hr;unfold pn;rw [show (bh t).ak=t.ak from rfl,show (bh t).aH.l=t.aH.l from rfl,show (bh t).au.l=t.au.l.map eF from rfl,
  KK g (fun f b=>⟨hk.f _ (KI b),g.s t h f b⟩) _ _ hk.p]
 by_cases j:t.ak=3
 ·rw [KL _ _ (hk.m j)]
 ·rw [dF j]; rfl
theorem KM {d:ai}(g:Gd d):kI (dB d)=kI d:=by
 unfold kI;rw [show (dB d).aj.l=(n9 d).map bh from rfl,pI,List.flatMap_map];exact wO fun t ht=>T_ g ht trivial
noncomputable def nz:Z9->Z9:=@Z9.rec (fun _=>Z9) (fun _=>List Z9) (fun k i t _ _ y b=>Z9.mk k i t b.isEmpty b (aZ y.l)) [] (fun _ _ b f=>b::f)
theorem E3 (k i:Int) (t:Bs) (nl:Bool) (l:List Z9) (y:Sl Bs):nz (Z9.mk k i t nl l y)=Z9.mk k i t l.isEmpty (l.map nz) (aZ y.l):=by
 have key:∀l:List Z9,(@Z9.rec_1 (fun _=>Z9) (fun _=>List Z9) (fun k i t _ _ y b=>Z9.mk k i t b.isEmpty b (aZ y.l)) [] (fun _ _ b f=>b::f) l:List Z9)=l.map nz:=by
  intro l;induction l with
  | nil=>rfl
  | cons a r b=>exact congrArg (nz a::·) b
 show Z9.mk k i t (List.isEmpty (@Z9.rec_1 (fun _=>Z9) (fun _=>List Z9) (fun k i t _ _ y b=>Z9.mk k i t b.isEmpty b (aZ y.l)) [] (fun _ _ b f=>b::f) l)) (@Z9.rec_1 (fun _=>Z9) (fun _=>List Z9) (fun k i t _ _ y b=>Z9.mk k i t b.isEmpty b (aZ y.l)) [] (fun _ _ b f=>b::f) l) (aZ y.l)=_;rw [key];cases l<;>rfl
theorem mM (v:Z9):nz v=Z9.mk v.ak v.bz v.br v.aG.l.isEmpty (v.aG.l.map nz) (aZ v.aW.l):=by cases v; exact E3 ..
structure Nz (v w:Z9):Prop where
 e:nz v=nz w
theorem Nz.kind {v w:Z9}(h:Nz v w):v.ak=w.ak:=by have:=h.e; rw [mM,mM w] at this; injection this
theorem Nz.int {v w:Z9}(h:Nz v w):v.bz=w.bz:=by have:=h.e; rw [mM,mM w] at this; injection this
theorem Nz.text {v w:Z9}(h:Nz v w):v.br=w.br:=by have:=h.e; rw [mM,mM w] at this; injection this
theorem Nz.items {v w:Z9}(h:Nz v w):v.aG.l.map nz=w.aG.l.map nz:=by have:=h.e; rw [mM,mM w] at this; injection this
theorem Nz.keys {v w:Z9}(h:Nz v w):v.aW.l=w.aW.l:=by
 have:=h.e; rw [mM,mM w] at this
 injection this with _ _ _ _ _ b
 have f:(aZ v.aW.l).l=(aZ w.aW.l).l:=congrArg (fun s:Sl Bs=>s.l) b;exact f
theorem KN:∀(n:Nat) (v:Z9),v.sz<=n->nz (cK v)=nz v
 | 0,v,h=>by have:=v.pos; omega
 | n+1,v,h=>by
  rw [qR,E3,mM v,List.map_map];have e:v.aG.l.map (nz ∘ cK)=v.aG.l.map nz:=List.map_congr_left fun x hx=>KN n x (by have:=Z9.mg hx; omega);rw [e];cases v.aG.l<;>rfl
theorem Nz.cp (v:Z9):Nz v (cK v):=⟨(KN _ v (Nat.le_refl _)).symm⟩
theorem KO {α:Type}{z:Nat}{s r u:Sl α}(h:bf z s r=some u):u.l=s.l++r.l:=by
 unfold bf at h; split at h
 ·cases h; rfl
 ·cases h
theorem KP {rec:Z9->Option Z9}:∀(l:List Z9) (s t:Sl Z9),(∀x∈l,∀r,rec x=some r->nz r=nz x)->nV rec l s=some t->t.l.map nz=s.l.map nz++l.map nz
 | [],s,t,_,h=>by rw [nV] at h; cases h; simp
 | x::l,s,t,hr,h=>by
  rw [nV] at h;simp only [Ab.on] at h;obtain⟨x',b,h⟩:=bw h;obtain⟨u,f,h⟩:=bw h;have:=KP l u t (fun y g=>hr y (.tail _ g)) h;rw [this,KO f];simp [hr x (.head _) _ b]
theorem E4:∀(n:Nat) (v r:Z9),j3 n v=some r->nz r=nz v
 | 0,v,r,h=>by rw [j3] at h; cases h
 | 1,v,r,h=>by rw [j3,uV] at h; cases h
 | n+2,v,r,h=>by
  rw [j3,uV] at h;simp only [Ab.on] at h;obtain⟨a,f,h⟩:=bw h;obtain⟨b,j,h⟩:=bw h;obtain⟨p,k,f⟩:=bw f;cases f;cases h;have h1:=KP v.aG.l _ _ (fun x _ r hr=>E4 n x r hr) k;have g:=KO j;simp only [Sl.nil,List.map_nil,List.nil_append] at h1 g;rw [E3,mM v,h1,g];have m:a.l.isEmpty=v.aG.l.isEmpty:=by
   have:=congrArg List.length h1;simp only [List.length_map] at this;rw [Bool.eq_iff_iff,List.isEmpty_iff_length_eq_zero,List.isEmpty_iff_length_eq_zero,this]
  rw [m]
def iK:Z9:=Z9.mk 0 0 [] true [] Sl.nil
theorem KQ {v w:Z9}(h:Nz v w) (s:Bs):∀(l:List Bs) (i:Nat) (o o':Unit ⊕ (Z9×Bool)),j6 v s l i=some o->j6 w s l i=some o'->(match o with|.inl _=>(iK,false)|.inr e=>e).2=(match o' with|.inl _=>(iK,false)|.inr e=>e).2/\Nz (match o with|.inl _=>(iK,false)|.inr e=>e).1 (match o' with|.inl _=>(iK,false)|.inr e=>e).1
 | [],i,o,o',h1,f=>by
  rw [j6] at h1 f;cases h1; cases f;exact⟨rfl,⟨rfl⟩⟩
 | x::l,i,o,o',h1,f=>by
  rw [j6] at h1 f;simp only [Ab.on] at h1 f;have hlen:v.aG.l.length=w.aG.l.length:=by have:=congrArg List.length h.items; simpa using this
  cases hx:x==s
  ·rw [hx,cond_false] at h1 f;exact KQ h s l (i+1) o o' h1 f
  ·rw [hx,cond_true] at h1 f;rw [<- hlen] at f;cases g:decide (((v.aG.l.length:Nat):Int)<=((i:Nat):Int))
   ·rw [g,cond_false] at h1 f;obtain⟨a,a1,h1⟩:=bw h1;obtain⟨j,a2,h1⟩:=bw h1;obtain⟨b,k,f⟩:=bw f;obtain⟨b',m,f⟩:=bw f;cases h1; cases f;refine⟨rfl,⟨?_⟩⟩;show nz j=nz b';rw [E4 _ _ _ a2,E4 _ _ _ m];have e:=congrArg (fun l=>l[i]?) h.items;simp only [List.getElem?_map,a1,k,Option.map_some] at e;exact oJ e
   ·rw [g,cond_true] at h1 f;cases h1; cases f;exact⟨rfl,⟨rfl⟩⟩
structure Rw (d:ai) (c c':Z3):Prop where
 d1:c.Fd=d
 d2:c'.Fd=dB d
 v1:c.fc=iK
 v2:c'.fc=iK
 li:c'.fG=c.fG
 co:c'.jk=c.jk
 er:c'.cV=c.cV
theorem Rw.fail {d:ai}{c c':Z3}(h:Rw d c c') (e:Int):Rw d (fH c e) (fH c' e):=by
 unfold fH;rw [h.er];cases decide (c.cV=0)
 ·exact h
 ·exact⟨h.d1,h.d2,h.v1,h.v2,h.li,h.co,rfl⟩
theorem Rw.count {d:ai}{c c':Z3}(h:Rw d c c') (n:Int):Rw d (Z3.mk c.Fd c.fc c.fG n c.cV) (Z3.mk c'.Fd c'.fc c'.fG n c'.cV):=⟨h.d1,h.d2,h.v1,h.v2,h.li,rfl,h.er⟩
theorem Rw.node {d:ai}{c c' z l:Z3}(h:Rw d c c'){L:Int}(e:lJ c L=some z) (j:lJ c' L=some l):Rw d z l:=by
 unfold lJ at e j;simp only [Ab.on] at e j;have key:∀a b:Z3,Rw d a b->((cF a.jk (1:Int)).bind fun f=>bif (decide ((4096:Int)<f)) then some (fH (Z3.mk a.Fd a.fc a.fG f a.cV) (4:Int)) else(some (Z3.mk a.Fd a.fc a.fG f a.cV)))=some z ->
   ((cF b.jk (1:Int)).bind fun f=>bif (decide ((4096:Int)<f)) then some (fH (Z3.mk b.Fd b.fc b.fG f b.cV) (4:Int)) else(some (Z3.mk b.Fd b.fc b.fG f b.cV)))=some l->Rw d z l:=by
  intro a b m h1 g;rw [m.co] at g;obtain⟨x,q,h1⟩:=bw h1;obtain⟨x',p,g⟩:=bw g;rw [q] at p;obtain rfl:=oJ p;cases k:decide ((4096:Int)<x)
  ·rw [k,cond_false] at h1 g; cases h1; cases g; exact m.count x
  ·rw [k,cond_true] at h1 g; cases h1; cases g; exact(m.count x).fail 4
 cases k:decide ((24:Int)<L)
 ·rw [k] at e j; exact key _ _ h e j
 ·rw [k] at e j; exact key _ _ (h.fail 5) e j
theorem Rw.scalar {d:ai}{c c' z f:Z3}{v w x y:Z9}(h:Rw d c c') (hv:Nz v w){n:Bs}(e:kO c n v=some (x,z)) (b:kO c' n w=some (y,f)):Rw d z f:=by
 unfold kO at e b;rw [<- hv.kind,<- hv.int] at b;simp only [Ab.on] at e b
 revert e b
 generalize (((((n==([73,110,116]:Bs)))&&(decide (v.ak=(2:Int))))&&(decide ((-2147483648:Int)<=v.bz)))&&(decide (v.bz<(2147483648:Int))))=g;cases g
 ·simp only [cond_false];generalize (bif (((n==([83,116,114,105,110,103]:Bs)))&&(decide (v.ak=(3:Int)))) then((((n==([83,116,114,105,110,103]:Bs)))&&(decide (v.ak=(3:Int))))) else(bif (((n==([66,111,111,108,101,97,110]:Bs)))&&(decide (v.ak=(1:Int)))) then((((n==([66,111,111,108,101,97,110]:Bs)))&&(decide (v.ak=(1:Int))))) else((((n==([73,68]:Bs)))&&(decide (v.ak=(3:Int)))))))=j;cases j
  ·simp only [cond_false];generalize (((n==([73,68]:Bs)))&&(decide (v.ak=(2:Int))))=k;cases k
   ·simp only [cond_false];intro e b; cases e; cases b; exact h.fail 23
   ·simp only [cond_true];intro e b;obtain⟨_,_,e⟩:=bw e;obtain⟨_,_,b⟩:=bw b;cases e; cases b; exact h
  ·simp only [cond_true];intro e b; cases e; cases b; exact h
 ·simp only [cond_true];intro e b; cases e; cases b; exact h
theorem KR {d:ai}{c c':Z3}{v w:Z9}(hv:Nz v w):∀l:List Z8,(kP c v l=Sum.inl ()/\kP c' w (l.map eF)=Sum.inl ())\/∃x y,kP c v l=Sum.inr (x,c)/\kP c' w (l.map eF)=Sum.inr (y,c')
 | []=>.inl ⟨rfl,rfl⟩
 | m::l=>by
  rw [List.map_cons,kP,kP];simp only [Ab.on];rw [show (eF m).aa=m.aa from rfl,<- hv.text];cases m.aa==v.br
  ·simp only [cond_false]; exact KR (d:=d) hv l
  ·exact .inr ⟨_,_,rfl,rfl⟩
theorem Rw.Ua {d:ai}{c c':Z3}{v w:Z9}(h:Rw d c c') (hv:Nz v w) (t:ag):Rw d (kQ c t v).2 (kQ c' (bh t) w).2:=by
 unfold kQ;simp only [Ab.on];rw [<- hv.kind,h.li,show (bh t).au.l=t.au.l.map eF from rfl];cases (decide (v.ak=(4:Int)))||((decide (v.ak=(3:Int)))&&(!c.fG))
 ·exact h.fail 23
 ·rcases KR (d:=d) (c:=c) (c':=c') hv t.au.l with ⟨b,f⟩|⟨x,y,b,f⟩
  ·rw [b,f]; exact h.fail 23
  ·rw [b,f]; exact h
theorem Rw.keys {d:ai}(t:ag):∀(l:List Bs){c c':Z3},Rw d c c'->Rw d (jK t l c) (jK (bh t) l c')
 | [],_,_,h=>h
 | k::l,c,c',h=>by
  rw [jK,jK];simp only [Ab.on];have e:(jG (bh t).ay k).2=(jG t.ay k).2:=by
   rw [Bx,Bx,show (bh t).ay.l=t.ay.l.map b8 from rfl,BW]
  rw [e];refine Rw.keys t l ?_;cases (jG t.ay k).2
  ·exact h.fail 22
  ·exact h
theorem Ub {v w x y:Z9}{b b':Bool}(h:Nz v w){s:Bs}(e:mL v s=some (x,b)) (f:mL w s=some (y,b')):b=b'/\Nz x y:=by
 unfold mL at e f;rw [<- h.kind] at f;cases hk:decide (v.ak=(6:Int))
 ·rw [hk] at e f; cases e; cases f; exact⟨rfl,⟨rfl⟩⟩
 ·rw [hk,Bool.not_true,cond_false] at e f;obtain⟨o,j,e⟩:=bw e;obtain⟨o',g,f⟩:=bw f;rw [<- h.keys] at g;have:=KQ h s _ _ _ _ j g;cases o<;>cases o'<;>(simp only [Ab.on] at e f; cases e; cases f; exact this)
theorem KS {α:Type}(f:α->α) (l:List α) (k:Int):dh (l.map f) k=(dh l k).map f:=by
 unfold dh
 split
 ·rw [List.getElem?_map]
 ·rfl
theorem KT (s f:Sl Z7) (g:f.l=s.l.map b8) (i:Int):∀(n:Nat) (k:Int),nX f i n k=nX s i n k
 | 0,_=>rfl
 | n+1,k=>by
  rw [nX,nX,g,KS,KS];cases decide (k<i)
  ·rfl
  ·simp only [cond_true];cases dh s.l k with
   | none=>rfl
   | some a =>
    simp only [Option.map_some,oB];cases dh s.l i with
    | none=>rfl
    | some b =>
     simp only [Option.map_some,oB,show (b8 a).aa=a.aa from rfl,show (b8 b).aa=b.aa from rfl,KT s f g i n]
theorem Uc (t:ag) (i:Int):wM (bh t).ay i=wM t.ay i:=KT t.ay _ rfl i F0 0
theorem E5 {c:Z3}(h:c.fc=iK) (v:Z9):qF c v=some (!((!c.fG)||(!decide (v.ak=(7:Int))))):=by
 unfold qF;rw [h];cases ((!c.fG)||(!decide (v.ak=(7:Int))))<;>rfl
def kV (d:ai) (k:Z3->aL->Z9->Int->Option (Z9×Z3)):Prop:=∀{c c':Z3}{t:aL}{v w x y:Z9}{L:Int}{z b:Z3},Rw d c c'->Nz v w->Rd d t.aa->t.aK.l.length<=1048576->k c t v L=some (x,z)->k c' t w L=some (y,b)->Rw d z b
theorem KU {d:ai}{k:Z3->aL->Z9->Int->Option (Z9×Z3)}(hk:kV d k){t:aL}(ht:Rd d t.aa) (hl:t.aK.l.length<=1048576) (L:Int):∀(l l':List Z9){c c':Z3}{a j b b':Z9}{z g:Z3},l.map nz=l'.map nz->Rw d c c'->js t L k l c a=some (z,b)->js t L k l' c' j=some (g,b')->Rw d z g
 | [],[],c,c',a,j,b,b',z,g,_,h,e,f=>by
  rw [js] at e f;cases e; cases f; exact h
 | [],_::_,c,c',a,j,b,b',z,g,hm,_,_,_=>by simp at hm
 | _::_,[],c,c',a,j,b,b',z,g,hm,_,_,_=>by simp at hm
 | v::l,w::l',c,c',a,j,b,b',z,g,hm,h,e,f=>by
  rw [List.map_cons,List.map_cons] at hm;obtain⟨h1,p⟩:=List.cons.inj hm;rw [js] at e f;simp only [Ab.on] at e f;rw [h.er] at f;cases m:decide (c.cV=(0:Int))
  ·rw [m,cond_false] at e f; cases e; cases f; exact h
  ·rw [m,cond_true] at e f;obtain⟨q,f1,e⟩:=bw e;obtain⟨s,f2,f⟩:=bw f;rw [f1] at f2;obtain rfl:=oJ f2;obtain⟨r,g1,e⟩:=bw e;obtain⟨u,g2,f⟩:=bw f;obtain⟨_,_,e⟩:=bw e;obtain⟨_,_,f⟩:=bw f;exact KU (k:=k) hk ht hl L l l' p (hk h ⟨h1⟩ ht hl g1 g2) e f
theorem KV {d:ai}{k k2:Z3->aL->Z9->Int->Option (Z9×Z3)}(hk:kV d k) (H:kV d k2) (t:ag){v w:Z9}(hv:Nz v w) (L:Int):∀(l:List Z7) (i:Nat){c c':Z3}{a g b b':Z9}{z s:Z3},(∀x∈l,Rd d x.ax.aa/\x.ax.aK.l.length<=1048576)->Rw d c c' ->
  gU t v L k k2 l i c a=some (z,b)->gU (bh t) w L k k2 (l.map b8) i c' g=some (s,b')->Rw d z s
 | [],i,c,c',a,g,b,b',z,s,_,h,e,f=>by
  rw [List.map_nil] at f;rw [gU] at e f;cases e; cases f; exact h
 | x::l,i,c,c',a,g,b,b',z,s,hx,h,e,f=>by
  obtain⟨I,J⟩:=hx x (.head _);rw [List.map_cons] at f;rw [gU] at e f;simp only [Ab.on] at e f;rw [h.er,Uc] at f;cases K:decide (c.cV=(0:Int))
  ·rw [K,cond_false] at e f; cases e; cases f; exact h
  ·rw [K,cond_true] at e f;obtain⟨q,f1,e⟩:=bw e;obtain⟨X,f2,f⟩:=bw f;rw [f1] at f2;obtain rfl:=oJ f2;obtain⟨r,g1,e⟩:=bw e;obtain⟨C,g2,f⟩:=bw f;have step:Rw d r.1 C.1->Rw d z s:=fun hr=>KV (k:=k) (k2:=k2) hk H t hv L l (i+1) (fun y P=>hx y (.tail _ P)) hr e f;refine step ?_;cases q
   ·rw [cond_false] at g1 g2;obtain⟨p,Q,g1⟩:=bw g1;obtain⟨M,R,g2⟩:=bw g2;obtain⟨S,N⟩:=Ub hv (b:=p.2) (b':=M.2) (x:=p.1) (y:=M.1) Q R;rw [E5 h.v1] at g1;rw [E5 h.v2,h.li,<- N.kind,<- S] at g2;have rest:∀{g1:Unit},(bif x.b_ then((cF L (1:Int)).bind fun E=>(k2 c x.ax x.dm E).bind fun B=>(bf 16 a.aW (⟨false,[x.aa]⟩:Sl Bs)).bind fun m=>(bf 80 a.aG (⟨false,[B.1]⟩:Sl Z9)).bind fun j=>some (B.2,(Z9.mk a.ak a.bz a.br j.nl j.l m))) else(bif iv x.ax then((bf 16 a.aW (⟨false,[x.aa]⟩:Sl Bs)).bind fun m=>(bf 80 a.aG (⟨false,[Z9.zero]⟩:Sl Z9)).bind fun j=>some (fH c 22,(Z9.mk a.ak a.bz a.br j.nl j.l m))) else some (c,a)))=some r ->
     (bif x.b_ then((cF L (1:Int)).bind fun E=>(k2 c' x.ax (cK x.dm) E).bind fun B=>(bf 16 g.aW (⟨false,[x.aa]⟩:Sl Bs)).bind fun m=>(bf 80 g.aG (⟨false,[B.1]⟩:Sl Z9)).bind fun j=>some (B.2,(Z9.mk g.ak g.bz g.br j.nl j.l m))) else(bif iv x.ax then((bf 16 g.aW (⟨false,[x.aa]⟩:Sl Bs)).bind fun m=>(bf 80 g.aG (⟨false,[Z9.zero]⟩:Sl Z9)).bind fun j=>some (fH c' 22,(Z9.mk g.ak g.bz g.br j.nl j.l m))) else some (c',g)))=some C->Rw d r.1 C.1:=by
     intro _ g1 g2;cases hh:x.b_
     ·rw [hh,cond_false] at g1 g2;cases hn:iv x.ax
      ·rw [hn,cond_false] at g1 g2; cases g1; cases g2; exact h
      ·rw [hn,cond_true] at g1 g2;obtain⟨_,_,g1⟩:=bw g1;obtain⟨_,_,g1⟩:=bw g1;obtain⟨_,_,g2⟩:=bw g2;obtain⟨_,_,g2⟩:=bw g2;cases g1; cases g2; exact h.fail 22
     ·rw [hh,cond_true] at g1 g2;obtain⟨U,m1,g1⟩:=bw g1;obtain⟨W,m2,g2⟩:=bw g2;rw [m1] at m2;obtain rfl:=oJ m2;obtain⟨u,F,g1⟩:=bw g1;obtain⟨u',G,g2⟩:=bw g2;obtain⟨_,_,g1⟩:=bw g1;obtain⟨_,_,g1⟩:=bw g1;obtain⟨_,_,g2⟩:=bw g2;obtain⟨_,_,g2⟩:=bw g2;cases g1; cases g2;exact H h (Nz.cp _) I J F G
    cases O:p.2
    ·rw [O] at g1 g2;exact rest (g1:=()) g1 g2
    ·rw [O] at g1 g2;simp only [aY,if_true,oB,Bool.true_and] at g1 g2;cases hm:(!((!c.fG)||(!decide (p.1.ak=(7:Int)))))
     ·rw [hm,Bool.not_false,cond_true] at g1 g2;obtain⟨U,m1,g1⟩:=bw g1;obtain⟨W,m2,g2⟩:=bw g2;rw [m1] at m2;obtain rfl:=oJ m2;obtain⟨u,F,g1⟩:=bw g1;obtain⟨u',G,g2⟩:=bw g2;obtain⟨_,_,g1⟩:=bw g1;obtain⟨_,_,g1⟩:=bw g1;obtain⟨_,_,g2⟩:=bw g2;obtain⟨_,_,g2⟩:=bw g2;cases g1; cases g2;exact hk h N I J F G
     ·rw [hm,Bool.not_true,cond_false] at g1 g2;exact rest (g1:=()) g1 g2
   ·rw [cond_true] at g1 g2; cases g1; cases g2; exact h
def E6 (d:ai) (k:Z3->ag->Z9->Int->Option (Z9×Z3)):Prop:=∀{c c':Z3}{t:ag}{v w x y:Z9}{L:Int}{z b:Z3},Rw d c c'->Nz v w->(∀x∈t.ay.l,Rd d x.ax.aa/\x.ax.aK.l.length<=1048576)->k c t v L=some (x,z)->k c' (bh t) w L=some (y,b)->Rw d z b
def u7 (d:ai):Prop:=∀n,Rd d n->∀x∈(bg d.aj.l n).1.ay.l,Rd d x.ax.aa/\x.ax.aK.l.length<=1048576
theorem Ud {d:ai}{n:Nat}(hk:kV d (eO n)):kV d (kR (n+1)):=by
 intro c c' t v w x y L z f h hv ht hl e b;rw [kR] at e b;simp only [Ab.on] at e b;rw [<- hv.kind] at b;obtain⟨r,f1,e⟩:=bw e;obtain⟨g,f2,b⟩:=bw b;cases e; cases b;refine KU (k:=eO n) hk ht hl L _ _ ?_ h f1 f2;cases decide (v.ak=5)
 ·show [nz v]=[nz w]; rw [hv.e]
 ·exact hv.items
theorem Ue {d:ai}{n:Nat}(hk:kV d (eO n)):kV d (iw (n+1)):=by
 intro c c' t v w x y L z f h hv ht hl e b;rw [iw] at e b;rw [h.co,h.er] at b;obtain⟨r,f1,e⟩:=bw e;obtain⟨g,f2,b⟩:=bw b;cases e; cases b;have:=hk (c:=Z3.mk c.Fd iK true c.jk c.cV) (c':=Z3.mk c'.Fd iK true c.jk c.cV) ⟨h.d1,h.d2,rfl,rfl,rfl,rfl,rfl⟩ hv ht hl f1 f2;exact⟨this.d1,this.d2,h.v1,h.v2,h.li,this.co,this.er⟩
theorem Uf {d:ai}{n:Nat}(hk:kV d (eO n)) (g:kV d (iw n)):E6 d (kS (n+1)):=by
 intro c c' t v w x y L z j h hv hi e b;rw [kS] at e b;simp only [Ab.on] at e b;rw [<- hv.kind,<- hv.keys] at b;cases f:decide (v.ak=(6:Int))
 ·rw [f] at e b; cases e; cases b; exact h.fail 23
 ·rw [f,Bool.not_true,cond_false] at e b;obtain⟨r,f1,e⟩:=bw e;obtain⟨m,f2,b⟩:=bw b;cases e; cases b;exact KV (k:=eO n) (k2:=iw n) hk g t hv L t.ay.l 0 hi (Rw.keys t v.aW.l h) f1 f2
theorem Ug {d:ai}(F:u7 d){n:Nat}(hl:kV d (kR n)) (G:E6 d (kS n)):kV d (eO (n+1)):=by
 intro c c' t v w x y L z q h hv ht hw e b;have main:∀{v w:Z9},Nz v w->∀{x y:Z9}{z q:Z3},
   ((lJ c L).bind fun f=>bif (!decide (f.cV=(0:Int))) then(some ((Z9.mk 0 0 [] true [] Sl.nil),f)) else(bif (decide (v.ak=(0:Int))) then some ((Z9.mk 0 0 [] true [] Sl.nil),bif iv t then fH f (23:Int) else(f)) else((mu t).bind fun j=>bif j.2 then(((kR n) f j.1 v L).bind fun k=>some (k.1,k.2)) else(bif iO t.aa then((kO f t.aa v).bind fun m=>some (m.1,m.2)) else(bif (decide ((fe f.Fd t.aa).1.ak=(4:Int))) then some ((kQ f (fe f.Fd t.aa).1 v).1,(kQ f (fe f.Fd t.aa).1 v).2) else(((kS n) f (fe f.Fd t.aa).1 v L).bind fun p=>some (p.1,p.2)))))))=some (x,z) ->
   ((lJ c' L).bind fun f=>bif (!decide (f.cV=(0:Int))) then(some ((Z9.mk 0 0 [] true [] Sl.nil),f)) else(bif (decide (w.ak=(0:Int))) then some ((Z9.mk 0 0 [] true [] Sl.nil),bif iv t then fH f (23:Int) else(f)) else((mu t).bind fun j=>bif j.2 then(((kR n) f j.1 w L).bind fun k=>some (k.1,k.2)) else(bif iO t.aa then((kO f t.aa w).bind fun m=>some (m.1,m.2)) else(bif (decide ((fe f.Fd t.aa).1.ak=(4:Int))) then some ((kQ f (fe f.Fd t.aa).1 w).1,(kQ f (fe f.Fd t.aa).1 w).2) else(((kS n) f (fe f.Fd t.aa).1 w L).bind fun p=>some (p.1,p.2)))))))=some (y,q)->Rw d z q:=by
  intro v w hv x y z q e b;obtain⟨a,a1,e⟩:=bw e;obtain⟨H,a2,b⟩:=bw b;have g:=h.node a1 a2;rw [g.er,<- hv.kind] at b;cases h0:decide (a.cV=0)
  ·rw [h0] at e b; cases e; cases b; exact g
  ·rw [h0,Bool.not_true,cond_false] at e b;cases h1:decide (v.ak=0)
   ·rw [h1,cond_false,y7 hw,oB] at e b;cases u:gQ (cn t.aK).l
    ·rw [u] at e b;simp only [cond_false] at e b;cases B:iO t.aa
     ·rw [B,cond_false] at e b;rw [g.d1,jY] at e;rw [g.d2,jY,oa ht] at b;simp only [show ∀t,(bh t).ak=t.ak from fun _=>rfl] at b;cases C:decide ((bg d.aj.l t.aa).1.ak=(4:Int))
      ·rw [C,cond_false] at e b;obtain⟨r,f1,e⟩:=bw e;obtain⟨E,f2,b⟩:=bw b;cases e; cases b;exact G g hv (F _ ht) f1 f2
      ·rw [C,cond_true] at e b;cases e; cases b;exact g.Ua hv _
     ·rw [B,cond_true] at e b;obtain⟨r,f1,e⟩:=bw e;obtain⟨E,f2,b⟩:=bw b;cases e; cases b;exact g.scalar hv f1 f2
    ·rw [u] at e b;simp only [cond_true] at e b;obtain⟨r,f1,e⟩:=bw e;obtain⟨E,f2,b⟩:=bw b;cases e; cases b;have s:=y2 t.aK;exact hl (t:=⟨t.aa,⟨false,(cn t.aK).l.drop 1⟩⟩) g hv ht (by show ((cn t.aK).l.drop 1).length<=_; rw [List.length_drop]; omega) f1 f2
   ·rw [h1,cond_true] at e b;cases e; cases b;cases iv t
    ·exact g
    ·exact g.fail 23
 rw [eO] at e b;simp only [Ab.on] at e b;rw [h.d1] at e;rw [h.d2,Kv ht,h.li,<- hv.kind] at b;cases hi:jH d t.aa
 ·rw [hi] at e b; cases e; cases b; exact h.fail 10
 ·rw [hi,Bool.not_true,cond_false] at e b;cases s:c.fG&&decide (v.ak=7)
  ·rw [s,cond_false] at e b;exact main hv e (by rw [<- hv.kind]; exact b)
  ·rw [s,cond_true,h.v1] at e;rw [s,cond_true,h.v2] at b;exact main (v:=iK) (w:=iK) ⟨rfl⟩ e b
theorem KW {d:ai}(f:u7 d):∀n,kV d (eO n)/\kV d (kR n)/\E6 d (kS n)/\kV d (iw n)
 | 0=>by
  refine⟨?_, ?_, ?_, ?_⟩
  ·intro c c' t v w x y L z b _ _ _ _ e; rw [eO] at e; cases e
  ·intro c c' t v w x y L z b _ _ _ _ e; rw [kR] at e; cases e
  ·intro c c' t v w x y L z b _ _ _ e; rw [kS] at e; cases e
  ·intro c c' t v w x y L z b _ _ _ _ e; rw [iw] at e; cases e
 | n+1=>by
  obtain⟨h1,g,j,k⟩:=KW f n;exact⟨Ug f g j,Ud h1,Uf h1 k,Ue h1⟩
theorem KX {d:ai}(g:Gd d) (k:d.sz<=1048576):u7 d:=by
 intro n hn x hx;cases b:tt d n
 ·rw [uQ b] at hx; cases hx
 ·obtain⟨h1,j⟩:=Ku b;refine⟨(E2 (g.f _ h1) (by rw [j]; exact hn)).i x hx, ?_⟩;have a1:=d.bA;have a2:=Sl.dA (f:=ag.sz) h1;have a3:=(bg d.aj.l n).1.bA;have a4:=Sl.dA (f:=Z7.sz) hx;have a5:=x.bA;have m:=x.ax.uH;omega
theorem Uh {d:ai}(j:u7 d){t:aL}{v x y:Z9}{a b:Int}(ht:Rd d t.aa) (hw:t.aK.l.length<=1048576) (e:nY d t v iK=some (x,a)) (f:nY (dB d) t (cK v) iK=some (y,b)):b=a:=by
 have hv:=Nz.cp v;unfold nY at e f;simp only [Ab.on] at e f;rw [Kv ht] at f;rw [E5 rfl] at e f;rw [<- hv.kind] at f;have run:∀{x y:Z9}{a b:Int},((qJ (Z3.mk d iK true 0 0) t v).bind fun g=>some (g.1,g.2.1))=some (x,a)->((qJ (Z3.mk (dB d) iK true (0:Int) (0:Int)) t (cK v)).bind fun g=>some (g.1,g.2.1))=some (y,b)->b=a:=by
  intro x y a b e f;obtain⟨r,f1,e⟩:=bw e;obtain⟨p,f2,f⟩:=bw f;cases e; cases f;unfold qJ BK at f1 f2;obtain⟨u,k,f1⟩:=bw f1;obtain⟨u',m,f2⟩:=bw f2;have h:=(KW j F0).1 (c:=Z3.mk d iK true 0 0) (c':=Z3.mk (dB d) iK true 0 0) ⟨rfl,rfl,rfl,rfl,rfl,rfl,rfl⟩ hv ht hw k m;rw [h.er] at f2;cases h0:decide (u.2.cV=0)
  ·rw [h0] at f1 f2; cases f1; cases f2; rfl
  ·rw [h0] at f1 f2; cases f1; cases f2; rfl
 cases hi:jH d t.aa
 ·rw [hi] at e f;exact run e f
 ·rw [hi] at e f;simp only [aY,if_true,oB,Bool.true_and] at e f;cases hq:(!((!true)||(!decide (v.ak=(7:Int)))))
  ·rw [hq,cond_false] at e;rw [hq,cond_false] at f;exact run e f
  ·rw [hq,cond_true] at e;rw [hq,cond_true] at f;cases e; cases f; rfl
theorem Rl.cp:∀(n:Nat) (v:Z9),Rl n v v->Rl n (cK v) (cK v)
 | 0,_,h=>h.elim
 | n+1,v,⟨_,b,_,_,e,f,g,i,k⟩=>by
  rw [qR];refine⟨rfl,⟨rfl,b.2⟩,rfl,rfl,e,f, ?_,fun hk=>?_, ?_⟩
  ·show (v.aG.l.map cK).length<=bB;rw [List.length_map]; exact g
  ·obtain⟨i1,i2,i3⟩:=i hk;exact⟨i1,by show v.aG.l.map cK=[]; rw [i2]; rfl,i3⟩
  ·show aQ (Rl n) (v.aG.l.map cK) (v.aG.l.map cK);refine aQ.jf rfl fun q x y hx m=>?_;rw [hx] at m;simp only [Option.some.injEq] at m;subst m;rw [List.getElem?_map] at hx;cases j:v.aG.l[q]? with
   | none=>rw [j] at hx; cases hx
   | some z =>
    rw [j] at hx;simp only [Option.map_some,Option.some.injEq] at hx;subst hx;obtain⟨s,p,r⟩:=k.get j;rw [j] at p;simp only [Option.some.injEq] at p;subst p;exact Rl.cp n z r
theorem BX {N:Nat}{x:Z7}(h:nW N x):nW N (b8 x):=⟨h.1,fun hh=>Rl.cp N _ (h.2 hh)⟩
theorem KY {N:Nat}{t:ag}(h:lM N t):lM N (bh t):=by
 refine⟨?_,fun y b=>?_⟩
 ·show (t.ay.l.map b8).length<=_;rw [List.length_map]; exact h.1
 ·obtain⟨x,f,rfl⟩:=List.mem_map.1 (show y∈t.ay.l.map b8 from b);exact BX (h.2 x f)
structure iR (e:ai):Prop where
 wf:e.wf
 sz:e.sz<=1048576
 ins:∀t∈e.aj.l,lM nB t
 args:∀t∈e.aj.l,∀f∈t.an.l,∀x∈f.az.l,nW nB x
theorem iR.bg {e:ai}(h:iR e) (s:Bs):lM nB (bg e.aj.l s).1:=by
 rcases yU e.aj.l s with e|hm
 ·rw [e]; exact⟨by show 0<=_; omega,fun x hx=>by cases hx⟩
 ·exact h.ins _ hm
theorem iR.uX {e:ai}(h:iR e){x:Z7}(hx:nW nB x) (b:x.sz<=1048576):Good e x:=by
 refine⟨b,fun hh=>?_⟩;obtain⟨v,w,er,f,g,_⟩:=Tg (N:=nB) TC h.bg (va:=zv) (wI.mono (by unfold nB; omega)) hx.1 (hx.2 hh);exact⟨v,w,er,f,g⟩
theorem iR.wP {e:ai}(h:iR e){t:ag}(ht:t∈e.aj.l):t.sz<=1048576/\(∀f∈t.an.l,f.sz<=1048576/\∀x∈f.az.l,x.sz<=1048576)/\∀x∈t.ay.l,x.sz<=1048576:=by
 have h0:=h.sz;have h1:=ai.D9 ht;have g:=t.bA;refine⟨by omega,fun f b=>?_,fun x hx=>by have:=Sl.dA (f:=Z7.sz) hx; omega⟩;have j:=Sl.dA (f:=Z6.sz) b;have k:=f.bA;exact⟨by omega,fun x hx=>by have:=Sl.dA (f:=Z7.sz) hx; omega⟩
theorem iR.KZ {e:ai}(h:iR e):∀t∈e.aj.l,BN e t:=fun t ht=>by
 obtain⟨s1,g,j⟩:=h.wP ht;exact⟨s1,fun f b=>⟨(g f b).1,fun x hx=>h.uX (h.args t ht f b x hx) ((g f b).2 x hx)⟩,fun x hx=>h.uX ((h.ins t ht).2 x hx) (j x hx)⟩
theorem iR.cp {e:ai}(h:iR e):iR (dB e):=by
 refine⟨TS h.wf,Nat.le_trans (TR e) h.sz,fun u hu=>?_,fun u hu f b x hx=>?_⟩
 ·obtain⟨t,ht,rfl⟩:=List.mem_map.1 (show u∈(n9 e).map bh from hu);exact KY (h.ins t (E0.1 ht).1)
 ·obtain⟨t,ht,rfl⟩:=List.mem_map.1 (show u∈(n9 e).map bh from hu);obtain⟨g,hg,rfl⟩:=List.mem_map.1 (show f∈t.an.l.map cA from b);obtain⟨y,j,rfl⟩:=List.mem_map.1 (show x∈g.az.l.map b8 from hx);exact BX (h.args t (E0.1 ht).1 g hg y j)
theorem Ui {e:ai}(f:u7 e){x:Z7}(hx:Good e x) (g:Good (dB e) (b8 x)) (p:Bs):je (dB e) (b8 x) p=je e x p:=by
 unfold je;rw [show (b8 x).b_=x.b_ from rfl];cases hh:x.b_ with
 | false=>rfl
 | true =>
  obtain⟨v,w,a,j,k⟩:=hx.2 hh;obtain⟨r,w',b,l,m⟩:=g.2 hh;have s:=hx.1;have u:=x.bA;have y:=x.ax.uH;have q:b=a:=Uh f (t:=x.ax) trivial (by omega) k m;subst q;rw [j,l]
theorem Uj {e:ai}(j:u7 e) (h:iR e){t:ag}(ht:t∈e.aj.l):fD (dB e) (bh t)=fD e t:=by
 obtain⟨s1,k,m⟩:=h.wP ht;have one:∀x,nW nB x->x.sz<=1048576->∀p,je (dB e) (b8 x) p=je e x p:=fun x h1 b p =>
  Ui j (h.uX h1 b) (h.cp.uX (BX h1) (by rw [EY]; exact b)) p
 unfold fD fF fI;rw [show (bh t).an.l=t.an.l.map cA from rfl,show (bh t).ay.l=t.ay.l.map b8 from rfl,List.flatMap_map,List.flatMap_map]
 congr 1
 ·refine wO fun f g=>?_;rw [show (cA f).az.l=f.az.l.map b8 from rfl,List.flatMap_map];exact wO fun x hx=>one x (h.args t ht f g x hx) ((k f g).2 x hx) _
 ·exact wO fun x hx=>one x ((h.ins t ht).2 x hx) (m x hx) _
theorem K0 {e:ai}(b:u7 e) (h:iR e):(dB e).aj.l.flatMap (fD (dB e))=e.aj.l.flatMap (fD e):=by
 rw [show (dB e).aj.l=(n9 e).map bh from rfl,pI,List.flatMap_map];exact wO fun t ht=>Uj b h ht
theorem iR.gd {e:ai}(h:iR e) (hc:jr e true=[]):Gd e:=by
 have h0:=h.sz;have h1:=e.bA;have g:=Sl.ja (f:=ag.sz) e.aj ag.pos;exact⟨by omega,T4 hc,fun t ht f b=>((EU h.sz h.wf) t ht).2.1 f b |>.2.2⟩
theorem K_ {P R:ai}(j:iR P) (g:iR R) (h:dB P=dB R):∃a b,zm P=some a/\wQ R=some b/\a.l=b.l:=by
 have hc:jr P true=jr R true:=by rw [<- KD P,<- KD R,h]
 have k:=j.sz;have hr:=g.sz;have h0:=P.bA;have hl:=Sl.ja (f:=ag.sz) P.aj ag.pos;have B:=R.bA;have rl:=Sl.ja (f:=ag.sz) R.aj ag.pos;obtain⟨C,u,p,n4⟩:=RK k true;have v:(jr R true).length<=9000000:=by rw [<- hc,<- p]; exact n4
 obtain⟨E,w⟩:=R1 (d:=R) (fun t ht=>(g.wP ht).1) (by omega) true v;unfold zm wQ;rw [u,w,oB,oB,p,hc];by_cases hn:jr R true=[]
 ·have q:=g.gd hn;have r:=j.gd (by rw [hc]; exact hn);have m:kI P=kI R:=by rw [<- KM r,<- KM q,h]
  have F:=Sy k;obtain⟨G,f1⟩:=Si (d:=P) (by omega) (EU k j.wf) (by unfold pq; omega);obtain⟨H,f2⟩:=Sq (d:=R) (by omega) (EU hr g.wf) (by rw [<- m]; unfold pq; omega);have y:P.aj.l.flatMap (fD P)=R.aj.l.flatMap (fD R):=by rw [<- K0 (KX r k) j,<- K0 (KX q hr) g,h]
  have I:Sl.sz ag.sz P.aj=1+(P.aj.l.map ag.sz).sum:=rfl;have J:Sl.sz ag.sz R.aj=1+(R.aj.l.map ag.sz).sum:=rfl;obtain⟨a,t1,t2⟩:=TA P P.aj.l (Sl.nil:Sl Z5) j.KZ (by simp only [Sl.nil,List.length_nil]; omega);obtain⟨b,t3,t4⟩:=TB R R.aj.l (Sl.nil:Sl Z5) g.KZ (by simp only [Sl.nil,List.length_nil]; omega);have z:zn P=some a:=by unfold zn; rw [t1]; rfl
  have hB:zo R=some b:=by unfold zo; rw [t3]; rfl
  have s:a.l=b.l:=by rw [t2,t4,y]
  have K:a.l.length<=1048576:=by
   rw [t2];have:=qB (TE P) P.aj.l;show (List.length ([]++P.aj.l.flatMap (fD P)))<=_;rw [List.nil_append]; omega
  rw [hn,show decide ((0:Int)<((([]:List Z5).length:Nat):Int))=false from rfl,cond_false,cond_false,f1,f2,z,hB];simp only [oB];rw [EV (by show (kI P).length+a.l.length<=_; omega),EV (by simp only [List.length_nil,<- m]; omega)];simp only [oB];rw [EV (by simp only [List.nil_append,<- m]; rw [<- s]; omega)];simp only [oB];exact⟨_,_,rfl,rfl,by simp only [List.nil_append,m,s]⟩
 ·have L:0<(jr R true).length:=List.length_pos_iff.2 hn;rw [show decide ((0:Int)<(((jr R true).length:Nat):Int))=true from dT (by omega),cond_true,cond_true];exact⟨_,_,rfl,rfl,by rw [p,hc]⟩
theorem E7 {α:Type}{z:Nat}{s r:Sl α}(hz:z<=200) (h:s.l.length+r.l.length<=10000000):bf z s r=some ⟨s.nl&&r.l.isEmpty,s.l++r.l⟩:=by
 unfold bf; rw [if_pos];have h1:(s.l.length+r.l.length)*z<=10000000*200:=Nat.mul_le_mul h hz;unfold cC; omega
theorem La (a:Bs):∀l:List bU,tu a l=tw a l
 | []=>rfl
 | x::r=>by rw [tu,tw,La a r]; rfl
theorem Uk (x:aD) (a:Bs):zp x a=tA x a:=by
 unfold zp tA;rw [La]; all_goals rfl
theorem Lb (n a:Bs):∀(l:List aD) (s:Sl Z9),qX n a l s=oc n a l s
 | [],_=>rfl
 | x::r,s=>by
  rw [qX,oc];simp only [Ab.on,Uk,Bool.and_comm (x.aa==n)]
  congr 1; funext z; exact Lb n a r z
theorem Ul (s:Sl aD) (n a:Bs):zq s n a=wR s n a:=by
 unfold zq wR;rw [Lb]
theorem E8 (n a:Bs):∀(l:List aD) (s:Sl Z9),s.l.length+l.length<=3000000->∃r,oc n a l s=some r/\r.l.length<=s.l.length+l.length
 | [],s,_=>⟨s,rfl,by simp⟩
 | x::r,s,h=>by
  simp only [List.length_cons] at h;rw [oc];simp only [Ab.on];cases (tA x a).2&&(x.aa==n)
  ·obtain⟨z,b,f⟩:=E8 n a r s (by omega);exact⟨z,b,by simp; omega⟩
  ·rw [cond_true,E7 (by omega) (by simp; omega),oB,oB];obtain⟨z,b,f⟩:=E8 n a r ⟨s.nl&&[(tA x a).1].isEmpty,s.l++[(tA x a).1]⟩ (by simp; omega);exact⟨z,b,by simp at f ⊢; omega⟩
theorem Lc (n:Bs):∀(l:List Bs) (i:Nat),jZ n l i=Sum.inl ()/\od n l=Sum.inl ()\/(∃j:Nat,jZ n l i=Sum.inr (j:Int))/\od n l=Sum.inr true
 | [],_=>.inl ⟨rfl,rfl⟩
 | x::r,i=>by
  rw [jZ,od];simp only [Ab.on,show (x==n)=(n==x) from BEq.comm];cases n==x
  ·exact Lc n r (i+1)
  ·exact .inr ⟨⟨i,rfl⟩,rfl⟩
theorem Ld (s:Sl Bs) (n:Bs):tB s n=lE s n:=by
 unfold tB lE nJ;rcases Lc n s.l 0 with ⟨b,f⟩|⟨⟨j,b⟩,f⟩<;>rw [b,f]
 ·rfl
 ·simp [Ab.on]
theorem BY:∀(l:List Z9) (s:Sl Bs),s.l.length+l.length<=3000000->∃r,qY l s=some r/\kW l s=some r/\r.l.length<=s.l.length+l.length
 | [],s,_=>⟨s,rfl,rfl,by simp⟩
 | x::r,s,h=>by
  simp only [List.length_cons] at h;have f:∀{o o':Option (Sl Bs)}{n m:Nat},n<=m->(∃r,o=some r/\o'=some r/\r.l.length<=n)->∃r,o=some r/\o'=some r/\r.l.length<=m:=fun h ⟨r,a,b,c⟩=>⟨r,a,b,by omega⟩;rw [qY,kW];simp only [Ab.on];cases hk:decide (x.ak=(3:Int))
  ·simp only [cond_false,Bool.false_and,oB];exact f (by simp) (BY r s (by omega))
  ·simp only [cond_true,Bool.true_and,Ld];cases lE s x.br
   ·simp only [Bool.not_false,cond_true];rw [E7 (by omega) (by simp; omega)];simp only [oB];exact f (by simp; omega) (BY r ⟨s.nl&&[x.br].isEmpty,s.l++[x.br]⟩ (by simp; omega))
   ·simp only [Bool.not_true,cond_false,oB];exact f (by simp) (BY r s (by omega))
def tg (a:Sl aD):List Bs:=match j8 a with|some r=>r.l|none=>[]
theorem u9 {a:Sl aD}(h:a.l.length<=1048576):∃r,j8 a=some r/\qZ a=some r/\r.l=tg a/\r.l.length<=1048576:=by
 have key:∃r,j8 a=some r/\qZ a=some r/\r.l.length<=1048576:=by
  unfold j8 qZ;rw [Ul];unfold wR;obtain⟨x,b,f⟩:=E8 [116,97,103] [110,97,109,101] a.l (Sl.nil:Sl Z9) (by simp [Sl.nil]; omega);rw [b];simp only [Ab.on,oB];obtain⟨r,f1,f2,f3⟩:=BY x.l (Sl.nil:Sl Bs) (by simp [Sl.nil] at f ⊢; omega);rw [f1,f2];exact⟨r,rfl,rfl,by simp [Sl.nil] at f f3; omega⟩
 obtain⟨r,b,f,g⟩:=key;exact⟨r,b,f,by unfold tg; rw [b],g⟩
def sh (a b:List Bs):Bool:=a.any fun s=>b.contains s
theorem BZ (a b c:List Bs):sh (a++b) c=(sh a c||sh b c):=by unfold sh; rw [List.any_append]
theorem Lf (n:Bs):∀l:List Bs,od n l=bif l.contains n then Sum.inr true else Sum.inl ()
 | []=>rfl
 | x::l=>by
  rw [od,List.contains_cons];simp only [Ab.on];rw [show (n==x)=(x==n) from BEq.comm];cases x==n
  ·rw [cond_false,Lf n l]; rfl
  ·rfl
theorem Lg (s:Sl Bs) (n:Bs):tB s n=s.l.contains n:=by
 unfold tB; rw [Lf]; cases s.l.contains n<;>rfl
theorem Lh (a1:Sl Bs):∀l:List Bs,tC a1 l=bif sh l a1.l then Sum.inr true else Sum.inl ()
 | []=>rfl
 | x::l=>by
  rw [tC];simp only [Ab.on,Lg];unfold sh;rw [List.any_cons];cases a1.l.contains x
  ·rw [cond_false,Lh a1 l]; rfl
  ·rfl
theorem Li (a b:Sl Bs):tD a b=sh a.l b.l:=by
 unfold tD; rw [Lh]; cases sh a.l b.l<;>rfl
theorem Lj (f:Bs->Bool):∀(l:List Bs) (n:Nat),(∃k:Nat,tE f l n=Sum.inr (k:Int))/\l.any f=true\/tE f l n=Sum.inl ()/\l.any f=false
 | [],_=>.inr ⟨rfl,rfl⟩
 | x::l,n=>by
  rw [tE,List.any_cons];simp only [Ab.on];cases f x
  ·simpa using Lj f l (n+1)
  ·exact .inl ⟨⟨n,rfl⟩,rfl⟩
theorem Um (s:Sl Bs) (f:Bs->Bool):zu s f=s.l.any f:=by
 unfold zu B5;rcases Lj f s.l 0 with ⟨⟨k,b⟩,g⟩|⟨b,g⟩<;>rw [b,g]
 ·simp [Ab.on]
 ·rfl
theorem Ll (a b:Sl Bs):tF a b=sh a.l b.l:=by
 unfold tF sh;rw [Um];unfold zw;simp only [Ab.on,<- Ld,Lg]
def al (i e:Sl Bs) (l:List Bs):Bool:=!sh l e.l&&(decide (((i.l.length:Nat):Int)=(0:Int))||sh l i.l)
theorem Un (i e:Sl Bs) (a b:List Bs):al i e (a++b)=al i e (b++a):=by
 unfold al; rw [BZ,BZ,BZ,BZ,Bool.or_comm (sh a e.l),Bool.or_comm (sh a i.l)]
theorem Lm (i e s:Sl Bs):mN (Z2.mk i e) s=al i e s.l:=by
 unfold mN al;simp only [Ab.on,Ll];cases sh s.l e.l<;>cases decide (((i.l.length:Nat):Int)=(0:Int))<;>rfl
theorem Ln {i e:Sl Bs}{a b:Sl aD}(f:a.l.length<=1048576) (g:b.l.length<=1048576):wS a b i e=some (al i e (tg b++tg a)):=by
 obtain⟨x,_,j,k,m⟩:=u9 f;obtain⟨y,_,f2,f3,f4⟩:=u9 g;unfold wS;rw [j,f2,oB,oB,E7 (by omega) (by omega),oB,Un];simp only [Ab.on,Li,k,f3];unfold al;cases sh (tg a++tg b) e.l<;>cases decide (((i.l.length:Nat):Int)=(0:Int))<;>rfl
def okF (i e:Sl Bs) (t:ag) (a:Sl aD):Bool:=al i e (tg t.aM++tg a)
noncomputable def kM (i e:Sl Bs) (t:ag):List Z8:=bif decide (t.ak=(4:Int)) then t.au.l.filter fun m=>okF i e t m.aM else t.au.l
noncomputable def zx (i e:Sl Bs) (t:ag):List Z6:=t.an.l.filter fun f=>okF i e t f.aM
noncomputable def pT (i e:Sl Bs) (t:ag):ag:=ag.mk t.ak t.aa t.aH (aZ (t.aM.l.map eX)) (aZ ((zx i e t).map cA)) (aZ ((kM i e t).map eF)) (aZ (t.ay.l.map b8))
noncomputable def kT (i e:Sl Bs) (t:ag):ag:=ag.mk t.ak t.aa t.aH t.aM (aZ (zx i e t)) (bif decide (t.ak=(4:Int)) then aZ (kM i e t) else t.au) t.ay
theorem Lo (a b:Sl Bs) (k:a.l.length<=2000000) (m:b.l.length<=2000000):∃nl,wT ⟨false,[a,b]⟩=some ⟨nl,a.l++b.l⟩/\(nl=true->a.l++b.l=[]):=by
 have hg:zy ((a.l.length:Int)+(b.l.length:Int))=some ⟨decide ((a.l.length:Int)+(b.l.length:Int)=0),[]⟩:=by
  unfold zy; rw [if_pos ⟨by omega,by unfold cC; omega,by unfold cC; omega⟩]
 refine⟨(decide ((a.l.length:Int)+(b.l.length:Int)=0)&&a.l.isEmpty)&&b.l.isEmpty, ?_, ?_⟩
 ·unfold wT B6;simp only [List.length_cons,List.length_nil,Nat.zero_add,Nat.reduceAdd,u_];have h1:cF 0 (a.l.length:Int)=some (a.l.length:Int):=by rw [fQ (by omega)]; simp
  have f:cF (a.l.length:Int) (b.l.length:Int)=some ((a.l.length:Int)+(b.l.length:Int)):=fQ (by omega);have g:¬((a.l.length:Int)<0):=by omega
  have j:¬((a.l.length:Int)+(b.l.length:Int)<0):=by omega
  have d1:decide ((0:Int)<2)=true:=by decide
  simp only [List.getElem?_cons_zero,List.getElem?_cons_succ,oB,h1,f,hg,dF g,dF j,cond_true,cond_false,B7,B8,u_,zz,B9,
   Int.natCast_zero,Nat.zero_add,Nat.reduceAdd,List.length_cons,List.length_nil]
  have p:∀(x y:Nat),x<y->decide (((x:Nat):Int)<((y:Nat):Int))=true:=fun x y h=>dT (by omega);have dn:∀(x y:Nat),¬x<y->decide (((x:Nat):Int)<((y:Nat):Int))=false:=fun x y h=>dF (by omega);rw [jE (by decide) (by simp; omega)];simp;rw [jE (by decide) (by simp; omega)]
  first|done|simp
 ·intro h;simp only [Bool.and_eq_true,List.isEmpty_iff] at h;rw [h.1.2,h.2]; rfl
theorem Lp {x:Z6}(h1:x.sz<=1048576) (hw:x.wf):x.aM.l.length<=1048576/\x.ax.aK.l.length<=1048576:=by
 have b:=x.bA;have g:=Sl.dP (f:=aD.sz) x.aM aD.pos;have j:=x.ax.uH;exact⟨by omega,by omega⟩
theorem E9 {i e:Sl Bs}{t:ag}{x3:Sl Bs}(g:x3.l=tg t.aM) (m:x3.l.length<=1048576) (k:Int) (n:Bs) (b:Sl Bs) (D:Sl aD) (M:Sl Z8) (N:Sl Z7):∀(l s:List Z6),(∀x∈l,x.sz<=1048576/\x.wf)->s.length+l.length<=5000000 ->
  jv (Z2.mk i e) x3 l (ag.mk k n b D (aZ s) M N)=some (ag.mk k n b D (aZ (s++(l.filter fun f=>okF i e t f.aM).map cA)) M N)
 | [],s,_,_=>by rw [jv,List.filter_nil,List.map_nil,List.append_nil]
 | x::l,s,hx,hl=>by
  rw [List.length_cons] at hl;rw [jv,List.filter_cons];simp only [Ab.on];obtain⟨h1,hw⟩:=hx x (.head _);have B:=x.bA;obtain⟨p,q⟩:=Lp h1 hw;obtain⟨r,u,_,v,C⟩:=u9 (a:=x.aM) p;obtain⟨nl,w,_⟩:=Lo x3 r (by omega) (by omega);have z:mN (Z2.mk i e) ⟨nl,x3.l++r.l⟩=okF i e t x.aM:=by rw [Lm,okF,g,v]
  rw [u,oB,w,oB,z];cases okF i e t x.aM
  ·rw [cond_false,oB,E9 g m k n b D M N l s (fun y j=>hx y (.tail _ j)) (by omega)]; rfl
  ·rw [cond_true,Kj _ (aL.Ie (Z6.vQ hw)).1 q,oB,BT (by omega) (Z6.jm hw),oB,Ks (by omega) (Z6.l9 hw),oB,
    kU (by omega) (by omega),oB,oB,E9 g m k n b D M N l (s++[_]) (fun y j=>hx y (.tail _ j)) (by simp; omega),List.append_assoc]; rfl
theorem E_ {i e:Sl Bs}{t:ag}{x3:Sl Bs}(j:x3.l=tg t.aM) (q:x3.l.length<=1048576) (k:Int) (n:Bs) (g:Sl Bs) (D:Sl aD) (F:Sl Z6) (N:Sl Z7):∀(l s:List Z8),(∀x∈l,x.sz<=1048576/\x.wf)->s.length+l.length<=5000000 ->
  gE (Z2.mk i e) t x3 l (ag.mk k n g D F (aZ s) N)=some (ag.mk k n g D F (aZ (s++(l.filter fun m=>!decide (t.ak=(4:Int))||okF i e t m.aM).map eF)) N)
 | [],s,_,_=>by rw [gE,List.filter_nil,List.map_nil,List.append_nil]
 | x::l,s,hx,hl=>by
  rw [List.length_cons] at hl;rw [gE,List.filter_cons];simp only [Ab.on];obtain⟨h1,hw⟩:=hx x (.head _);have G:=x.bA;have H:=Sl.dP (f:=aD.sz) x.aM aD.pos;obtain⟨r,u,_,v,I⟩:=u9 (a:=x.aM) (by omega);obtain⟨nl,w,_⟩:=Lo x3 r (by omega) (by omega);have z:mN (Z2.mk i e) ⟨nl,x3.l++r.l⟩=okF i e t x.aM:=by rw [Lm,okF,j,v]
  have fin:∀b:Bool,(Option.bind (bif b then((qW x.aM).bind fun B=>(bf 40 (aZ s) (⟨false,[(Z8.mk x.aa B)]⟩:Sl Z8)).bind fun C=>some (ag.mk k n g D F C N)) else(some (ag.mk k n g D F (aZ s) N))) fun E=>gE (Z2.mk i e) t x3 l E)=some (ag.mk k n g D F (aZ (s++(if b=true then x::l.filter (fun m=>!decide (t.ak=(4:Int))||okF i e t m.aM) else l.filter (fun m=>!decide (t.ak=(4:Int))||okF i e t m.aM)).map eF)) N):=by
   intro b;cases b
   ·rw [cond_false,oB,E_ j q k n g D F N l s (fun y p=>hx y (.tail _ p)) (by omega)]; rfl
   ·rw [cond_true,BT (by omega) (Z8.jm hw),oB,kU (by omega) (by omega),oB,oB,E_ j q k n g D F N l (s++[_]) (fun y p=>hx y (.tail _ p)) (by simp; omega),List.append_assoc]; rfl
  cases hk:decide (t.ak=(4:Int))
  ·rw [hk] at fin;simp only [Bool.not_false,Bool.not_true,aY,cond_false,Bool.true_or];exact fin true
  ·rw [hk] at fin;simp only [Bool.not_false,Bool.not_true,aY,cond_true,Bool.false_or,if_true,u,oB,w,z]
   simpa only [Bool.not_true,Bool.false_or] using fin (okF i e t x.aM)
theorem Uo {i e:Sl Bs}{t:ag}(k:t.sz<=1048576) (hw:t.wf):pJ (Z2.mk i e) t=some (pT i e t):=by
 have m:=t.bA;have p:=Sl.dP (f:=aD.sz) t.aM aD.pos;have q:=Sl.dP (f:=Bs.sz) t.aH (fun x=>Bs.lm x);have s:=Sl.dP (f:=Z6.sz) t.an Z6.pos;have u:=Sl.dP (f:=Z8.sz) t.au Z8.pos;obtain⟨r,j,_,b,g⟩:=u9 (a:=t.aM) (by omega);unfold pJ zA;rw [j,oB,Ki _ (ag.vR hw).1 (by omega),oB,BT (by omega) (ag.jm hw),oB,Ks (by omega) (ag.uy hw),oB,
  show (Sl.nil:Sl Z6)=aZ [] from rfl,show (Sl.nil:Sl Z8)=aZ [] from rfl,E9 (t:=t) b g _ _ _ _ _ _ t.an.l [] (fun x hx=>⟨by have:=Sl.dA (f:=Z6.sz) hx; omega,(ag.qh hw).2.2 x hx⟩) (by simp; omega),oB]
 simp only [Ab.on];rw [E_ b g _ _ _ _ _ _ t.au.l [] (fun x hx=>⟨by have:=Sl.dA (f:=Z8.sz) hx; omega,(ag.rW hw).2.2 x hx⟩) (by simp; omega),oB];unfold pT zx kM;cases decide (t.ak=(4:Int))
 ·simp only [Bool.not_false,Bool.true_or,cond_false,List.nil_append];rw [List.filter_eq_self.2 (fun _ _=>rfl)]
 ·simp only [Bool.not_true,Bool.false_or,cond_true,List.nil_append]
theorem Fa {i e:Sl Bs}{t:ag}(ht:t.aM.l.length<=1048576) (k:Int) (n:Bs) (b:Sl Bs) (M:Sl Z8) (N:Sl Z7):∀(l s:List Z6),(∀x∈l,x.sz<=1048576/\x.wf)->s.length+l.length<=5000000 ->
  pK i e l (ag.mk k n b t.aM (aZ s) M N)=some (ag.mk k n b t.aM (aZ (s++l.filter fun f=>okF i e t f.aM)) M N)
 | [],s,_,_=>by rw [pK,List.filter_nil,List.append_nil]
 | x::l,s,hx,hl=>by
  rw [List.length_cons] at hl;rw [pK,List.filter_cons];simp only [Ab.on];obtain⟨h1,hw⟩:=hx x (.head _);obtain⟨j,m⟩:=Lp h1 hw;rw [Ln (i:=i) (e:=e) j ht,oB,show al i e (tg t.aM++tg x.aM)=okF i e t x.aM from rfl];cases okF i e t x.aM
  ·rw [cond_false,oB,Fa ht k n b M N l s (fun y g=>hx y (.tail _ g)) (by omega)]; rfl
  ·rw [cond_true,kU (by omega) (by omega),oB,oB,Fa ht k n b M N l (s++[_]) (fun y g=>hx y (.tail _ g)) (by simp; omega),List.append_assoc]; rfl
theorem Fb {i e:Sl Bs}{t:ag}(ht:t.aM.l.length<=1048576) (k:Int) (n:Bs) (b:Sl Bs) (F:Sl Z6) (N:Sl Z7):∀(l s:List Z8),(∀x∈l,x.sz<=1048576)->s.length+l.length<=5000000 ->
  mQ i e l (ag.mk k n b t.aM F (aZ s) N)=some (ag.mk k n b t.aM F (aZ (s++l.filter fun f=>okF i e t f.aM)) N)
 | [],s,_,_=>by rw [mQ,List.filter_nil,List.append_nil]
 | x::l,s,hx,hl=>by
  rw [List.length_cons] at hl;rw [mQ,List.filter_cons];simp only [Ab.on];have h1:=hx x (.head _);have j:=x.bA;have m:=Sl.dP (f:=aD.sz) x.aM aD.pos;rw [Ln (i:=i) (e:=e) (by omega) ht,oB,show al i e (tg t.aM++tg x.aM)=okF i e t x.aM from rfl];cases okF i e t x.aM
  ·rw [cond_false,oB,Fb ht k n b F N l s (fun y g=>hx y (.tail _ g)) (by omega)]; rfl
  ·rw [cond_true,kU (by omega) (by omega),oB,oB,Fb ht k n b F N l (s++[_]) (fun y g=>hx y (.tail _ g)) (by simp; omega),List.append_assoc]; rfl
def lP (e:Sl Bs) (t:ag):Bool:=!sh (tg t.aM) e.l
theorem Fc {i e:Sl Bs}:∀(l s:List ag),(∀x∈l,x.sz<=1048576/\x.wf)->s.length+l.length<=5000000 ->
  pL i e l (ai.mk (aZ s))=some (ai.mk (aZ (s++(l.filter (lP e)).map (kT i e))))
 | [],s,_,_=>by rw [pL,List.filter_nil,List.map_nil,List.append_nil]
 | x::l,s,hx,hl=>by
  rw [List.length_cons] at hl;rw [pL,List.filter_cons];simp only [Ab.on];obtain⟨h1,hw⟩:=hx x (.head _);have p:=x.bA;have q:=Sl.dP (f:=aD.sz) x.aM aD.pos;have u:=Sl.dP (f:=Z6.sz) x.an Z6.pos;have v:=Sl.dP (f:=Z8.sz) x.au Z8.pos;obtain⟨r,_,g,j,w⟩:=u9 (a:=x.aM) (by omega);have k:tD r e=!lP e x:=by unfold lP; rw [Li,j,Bool.not_not]
  rw [g,oB,k];cases lP e x
  ·rw [Bool.not_false,cond_true,oB,Fc l s (fun y b=>hx y (.tail _ b)) (by omega)]; rfl
  ·rw [Bool.not_true,cond_false,show (Sl.nil:Sl Z6)=aZ [] from rfl,Fa (t:=x) (by omega) _ _ _ _ _ x.an.l [] (fun y b=>⟨by have:=Sl.dA (f:=Z6.sz) b; omega,(ag.qh hw).2.2 y b⟩) (by simp; omega),oB];have key:Option.bind (bif (decide (x.ak=(4:Int))) then(Option.bind (mQ i e x.au.l (ag.mk x.ak x.aa x.aH x.aM (aZ ([]++x.an.l.filter fun f=>okF i e x f.aM)) (Sl.nil:Sl Z8) x.ay)) fun m=>some m) else(some (ag.mk x.ak x.aa x.aH x.aM (aZ ([]++x.an.l.filter fun f=>okF i e x f.aM)) x.au x.ay))) (fun y=>some y)=some (kT i e x):=by
    unfold kT zx kM;cases decide (x.ak=(4:Int))
    ·rfl
    ·rw [cond_true,show (Sl.nil:Sl Z8)=aZ [] from rfl,Fb (t:=x) (by omega) _ _ _ _ _ x.au.l [] (fun y b=>by have:=Sl.dA (f:=Z8.sz) b; omega) (by simp; omega)]; rfl
   rw [Option.bind_fun_some] at key;simp only [key,oB];rw [kU (by omega) (by omega),oB,oB,Fc l (s++[_]) (fun y b=>hx y (.tail _ b)) (by simp; omega),List.append_assoc]; rfl
theorem Lq {i e:Sl Bs}:∀(l:List ag),(∀x∈l,x.sz<=1048576/\x.wf)->q6 (Z2.mk i e) e l=some ((l.filter (lP e)).map (pT i e))
 | [],_=>rfl
 | x::l,hx=>by
  rw [q6,List.filter_cons];obtain⟨h1,hw⟩:=hx x (.head _);have m:=x.bA;have p:=Sl.dP (f:=aD.sz) x.aM aD.pos;obtain⟨r,b,_,g,q⟩:=u9 (a:=x.aM) (by omega);have j:tF r e=!lP e x:=by unfold lP; rw [Ll,g,Bool.not_not]
  rw [b,oB,j,Bool.not_not,Lq l fun y k=>hx y (.tail _ k)];cases lP e x
  ·rfl
  ·rw [cond_true,Uo h1 hw]; rfl
theorem Up (l:List ag) (n:Bs):(bg l n).2=l.any fun t=>t.aa==n:=by
 unfold bg;cases h:l.find? (fun t=>t.aa==n) with
 | none =>
  symm
  rw [List.any_eq_false];intro x hx;exact List.find?_eq_none.1 h x hx
 | some t =>
  symm
  rw [List.any_eq_true];have b:=List.find?_some h;exact⟨t,List.mem_of_find?_eq_some h,b⟩
theorem B_ (d:ai) (n:Bs):tG d n=cL d.aj.l n:=by
 unfold tG cL;simp only [Ab.on];rw [jY,Up,Bool.and_comm];rfl
def wU (x:Z7):Bool:=iP x.ax&&!x.b_
theorem Lr (x:Z7):pM x=!wU x:=by
 unfold pM wU;simp only [Ab.on];cases iP x.ax<;>cases x.b_<;>rfl
def bad (g:Bs->Bool) (l:List Z7):Bool:=l.any fun x=>g x.ax.aa&&wU x
def eP (g:Bs->Bool) (l:List Z7):List Z7:=l.filter fun x=>!g x.ax.aa
theorem Ca (d:ai):∀(l s:List Z7),s.length+l.length<=5000000->pN d l (aZ s)=some (bif bad (cL d.aj.l) l then Sum.inr ((Sl.nil:Sl Z7),false) else Sum.inl (aZ (s++eP (cL d.aj.l) l)))
 | [],s,_=>by rw [pN]; simp [bad,eP]
 | x::l,s,hl=>by
  rw [List.length_cons] at hl;rw [pN];simp only [Ab.on,B_];have b:bad (cL d.aj.l) (x::l)=((cL d.aj.l x.ax.aa&&wU x)||bad (cL d.aj.l) l):=rfl;have hc:eP (cL d.aj.l) (x::l)=if (!cL d.aj.l x.ax.aa)=true then x::eP (cL d.aj.l) l else eP (cL d.aj.l) l:=List.filter_cons ..
  rw [b,hc];cases cL d.aj.l x.ax.aa
  ·simp only [Bool.not_false,cond_true,Bool.false_and,Bool.false_or,if_true];rw [kU (by omega) (by omega),oB,Ca d l (s++[x]) (by simp; omega),List.append_assoc]; rfl
  ·simp only [Bool.not_true,cond_false,Bool.true_and,show iv x.ax=iP x.ax from rfl];unfold wU;cases iP x.ax
   ·simp only [cond_false,Bool.false_and,Bool.false_or];rw [Ca d l s (by omega)]; rfl
   ·simp only [cond_true,Bool.true_and];cases x.b_
    ·rfl
    ·simp only [Bool.not_true,cond_false,Bool.false_or];rw [Ca d l s (by omega)]; rfl
theorem Ls {d:ai}{s:Sl Z7}(h:s.l.length<=1048576):wV d s=some (bif bad (cL d.aj.l) s.l then((Sl.nil:Sl Z7),false) else(aZ (eP (cL d.aj.l) s.l),true)):=by
 unfold wV;rw [show (Sl.nil:Sl Z7)=aZ [] from rfl,Ca d s.l [] (by simp; omega)];cases bad (cL d.aj.l) s.l<;>rfl
def lQ (g:Bs->Bool) (f:Z6):Bool:=!bad g f.az.l&&!g f.ax.aa
def rF (g:Bs->Bool) (f:Z6):Z6:=Z6.mk f.aa (aZ (eP g f.az.l)) f.ax f.aM
def d_ (g:Bs->Bool) (l:List Z6):List Z6:=(l.filter (lQ g)).map (rF g)
theorem Cb (d:ai):∀(l s:List Z6),(∀x∈l,x.az.l.length<=1048576)->s.length+l.length<=5000000->pO d l (aZ s)=some (aZ (s++d_ (cL d.aj.l) l))
 | [],s,_,_=>by rw [pO]; simp [d_]
 | x::l,s,hx,hl=>by
  rw [List.length_cons] at hl;rw [pO];simp only [Ab.on,B_];have hc:d_ (cL d.aj.l) (x::l)=if lQ (cL d.aj.l) x=true then rF (cL d.aj.l) x::d_ (cL d.aj.l) l else d_ (cL d.aj.l) l:=by
   unfold d_; rw [List.filter_cons]; split<;>rfl
  rw [Ls (hx x (.head _)),oB,hc];unfold lQ;cases bad (cL d.aj.l) x.az.l
  ·simp only [cond_false,cond_true,Bool.true_and,Bool.not_false];cases cL d.aj.l x.ax.aa
   ·simp only [Bool.not_false,cond_true,if_true];rw [kU (by omega) (by omega),oB,oB,Cb d l (s++[_]) (fun y b=>hx y (.tail _ b)) (by simp; omega),List.append_assoc]; rfl
   ·simp only [Bool.not_true,cond_false,oB];rw [Cb d l s (fun y b=>hx y (.tail _ b)) (by omega)]; rfl
  ·simp only [cond_true,cond_false,Bool.false_and,Bool.not_true,oB];rw [Cb d l s (fun y b=>hx y (.tail _ b)) (by omega)]; rfl
theorem Uq {d:ai}{s:Sl Z6}(hx:∀x∈s.l,x.az.l.length<=1048576) (h:s.l.length<=1048576):zB d s=some (aZ (d_ (cL d.aj.l) s.l)):=by
 unfold zB;rw [show (Sl.nil:Sl Z6)=aZ [] from rfl,Cb d s.l [] hx (by simp; omega)];rfl
theorem Fe (d:ai) (k:Int) (n:Bs) (D:Sl aD) (F:Sl Z6) (M:Sl Z8) (N:Sl Z7):∀(l s:List Bs),s.length+l.length<=5000000->pP d l (ag.mk k n (aZ s) D F M N)=some (ag.mk k n (aZ (s++l.filter fun x=>!cL d.aj.l x)) D F M N)
 | [],s,_=>by rw [pP,List.filter_nil,List.append_nil]
 | x::l,s,hl=>by
  rw [List.length_cons] at hl;rw [pP,List.filter_cons];simp only [Ab.on,B_];cases cL d.aj.l x
  ·simp only [Bool.not_false,cond_true,if_true];rw [kU (by omega) (by omega),oB,oB,Fe d k n D F M N l (s++[x]) (by simp; omega),List.append_assoc]; rfl
  ·simp only [Bool.not_true,cond_false,oB];rw [Fe d k n D F M N l s (by omega)]; rfl
theorem Ff (d:ai) (k:Int) (n:Bs) (b:Sl Bs) (D:Sl aD) (F:Sl Z6) (N:Sl Z7):∀(l s:List Z8),s.length+l.length<=5000000->oe d l (ag.mk k n b D F (aZ s) N)=some (ag.mk k n b D F (aZ (s++l.filter fun x=>!cL d.aj.l x.aa)) N)
 | [],s,_=>by rw [oe,List.filter_nil,List.append_nil]
 | x::l,s,hl=>by
  rw [List.length_cons] at hl;rw [oe,List.filter_cons];simp only [Ab.on,B_];cases cL d.aj.l x.aa
  ·simp only [Bool.not_false,cond_true,if_true];rw [kU (by omega) (by omega),oB,oB,Ff d k n b D F N l (s++[x]) (by simp; omega),List.append_assoc]; rfl
  ·simp only [Bool.not_true,cond_false,oB];rw [Ff d k n b D F N l s (by omega)]; rfl
def rM (g:Bs->Bool) (t:ag):List Z8:=bif decide (t.ak=(3:Int)) then t.au.l.filter fun x=>!g x.aa else t.au.l
def iI (g:Bs->Bool) (t:ag):Bool:=!bad g t.ay.l&&decide (0<(d_ g t.an.l).length+(rM g t).length+(eP g t.ay.l).length)
def rT (g:Bs->Bool) (t:ag):ag:=ag.mk t.ak t.aa (aZ (t.aH.l.filter fun x=>!g x)) t.aM (aZ (d_ g t.an.l)) (bif decide (t.ak=(3:Int)) then aZ (rM g t) else t.au) (aZ (eP g t.ay.l))
structure Fg (t:ag):Prop where
 f:t.an.l.length<=1048576
 a:∀x∈t.an.l,x.az.l.length<=1048576
 m:t.au.l.length<=1048576
 i:t.ay.l.length<=1048576
 p:t.aH.l.length<=1048576
theorem Ur (g:Bs->Bool) (l:List Z6):(d_ g l).length<=l.length:=by unfold d_; rw [List.length_map]; exact List.length_filter_le _ _
theorem Lt (d:ai):∀(l s:List ag),(∀x∈l,Fg x)->s.length+l.length<=5000000->og d l (ai.mk (aZ s))=some (ai.mk (aZ (s++(l.filter (iI (cL d.aj.l))).map (rT (cL d.aj.l)))))
 | [],s,_,_=>by rw [og,List.filter_nil,List.map_nil,List.append_nil]
 | x::l,s,hx,hl=>by
  rw [List.length_cons] at hl;have b:=hx x (.head _);rw [og,List.filter_cons];simp only [Ab.on];rw [Uq b.a b.f,oB,Ls b.i,oB];have j:=fun q r=>Lt d l q (fun y t=>hx y (.tail _ t)) r;generalize hg:cL d.aj.l=g at j ⊢;have u:∀N:Sl Z7,(bif (decide (x.ak=(3:Int))) then(Option.bind (oe d x.au.l (ag.mk x.ak x.aa x.aH x.aM (aZ (d_ g x.an.l)) (Sl.nil:Sl Z8) N)) fun v=>some v) else(some (ag.mk x.ak x.aa x.aH x.aM (aZ (d_ g x.an.l)) x.au N)))=some (ag.mk x.ak x.aa x.aH x.aM (aZ (d_ g x.an.l)) (bif decide (x.ak=(3:Int)) then aZ (rM g x) else x.au) N):=fun N=>by
   unfold rM;cases decide (x.ak=(3:Int))
   ·rfl
   ·rw [cond_true,show (Sl.nil:Sl Z8)=aZ [] from rfl,Ff d _ _ _ _ _ _ x.au.l [] (by have:=b.m; simp; omega),hg]; rfl
  rw [u,oB,show (Sl.nil:Sl Bs)=aZ [] from rfl];simp only [];rw [Fe d _ _ _ _ _ _ x.aH.l [] (by have:=b.p; simp; omega),oB,hg];have w:(bif decide (x.ak=(3:Int)) then aZ (rM g x) else x.au).l=rM g x:=by
   unfold rM; cases decide (x.ak=(3:Int))<;>rfl
  have B:=Ur g x.an.l;have C:(rM g x).length<=x.au.l.length:=by
   unfold rM; cases decide (x.ak=(3:Int))
   ·exact Nat.le_refl _
   ·exact List.length_filter_le _ _
  have E:(eP g x.ay.l).length<=x.ay.l.length:=List.length_filter_le _ _;have F:=b.f;have z2:=b.m;have z3:=b.i;have z:iI g x=(!bad g x.ay.l&&decide (0<(d_ g x.an.l).length+(rM g x).length+(eP g x.ay.l).length)):=rfl;rw [z];cases bad g x.ay.l
  ·simp only [cond_false,aY,if_true,Bool.not_false,Bool.true_and,w];rw [show (aZ (d_ g x.an.l)).l=d_ g x.an.l from rfl,show (aZ (eP g x.ay.l)).l=eP g x.ay.l from rfl,fQ (by omega),oB,fQ (by omega),oB];by_cases k:0<(d_ g x.an.l).length+(rM g x).length+(eP g x.ay.l).length
   ·rw [dT k,dT (show (0:Int)<(((d_ g x.an.l).length:Nat):Int)+(((rM g x).length:Nat):Int)+(((eP g x.ay.l).length:Nat):Int) by omega),cond_true,kU (by omega) (by omega),oB,oB,j (s++[_]) (by simp; omega),List.append_assoc];rfl
   ·rw [dF k,dF (show ¬(0:Int)<(((d_ g x.an.l).length:Nat):Int)+(((rM g x).length:Nat):Int)+(((eP g x.ay.l).length:Nat):Int) by omega),cond_false,oB,j s (by omega)];rfl
  ·simp only [cond_true,aY,Bool.not_true,Bool.false_and,cond_false,oB];rw [if_neg (by simp),if_neg (by simp),j s (by omega)];rfl
theorem Lu {l:List ag}{nl:Bool}(hx:∀x∈l,Fg x) (h:l.length<=1048576):wW (ai.mk ⟨nl,l⟩)=some (ai.mk (aZ ((l.filter (iI (cL l))).map (rT (cL l))))):=by
 unfold wW;rw [show ai.zero=ai.mk (aZ []) from rfl,Lt (ai.mk ⟨nl,l⟩) l [] hx (by simp; omega)];rfl
def eu (l:List Z6):Nat:=(l.map fun f=>1+f.az.l.length).sum
def fA (t:ag):Nat:=eu t.an.l+t.au.l.length+t.ay.l.length+t.aH.l.length
def cB (l:List ag):Nat:=(l.map fun t=>1+fA t).sum
theorem Lv:∀(l:List Z6) (n:Nat),n+(l.map fun f=>f.az.l.length).sum<=900000000000000->q7 l ((n:Nat):Int)=some (((n+(l.map fun f=>f.az.l.length).sum:Nat)):Int)
 | [],n,_=>by rw [q7]; simp
 | x::l,n,h=>by
  rw [List.map_cons,List.sum_cons] at h;rw [q7,List.map_cons,List.sum_cons];simp only [Ab.on];rw [fQ (by omega),oB,show ((n:Nat):Int)+((x.az.l.length:Nat):Int)=((n+x.az.l.length:Nat):Int) by omega,Lv l (n+x.az.l.length) (by omega)]
  congr 2; omega
theorem Us (l:List Z6):eu l=l.length+(l.map fun f=>f.az.l.length).sum:=by
 unfold eu;induction l with
 | nil=>rfl
 | cons a l b=>rw [List.map_cons,List.sum_cons,b,List.map_cons,List.sum_cons,List.length_cons]; omega
theorem Lw:∀(l:List ag) (n:Nat),n+cB l<=900000000000000->pQ l (((n+l.length:Nat)):Int)=some (((n+cB l:Nat)):Int)
 | [],n,_=>by rw [pQ]; simp [cB]
 | x::l,n,h=>by
  have hc:cB (x::l)=1+fA x+cB l:=by unfold cB; rw [List.map_cons,List.sum_cons]
  rw [hc] at h;have g:fA x=eu x.an.l+x.au.l.length+x.ay.l.length+x.aH.l.length:=rfl;have j:=Us x.an.l;have hl:l.length<=cB l:=by
   clear h hc;induction l with
   | nil=>exact Nat.le_refl _
   | cons a l b=>unfold cB at b ⊢; rw [List.map_cons,List.sum_cons,List.length_cons]; omega
  rw [pQ,List.length_cons];simp only [Ab.on];rw [fQ (by omega),oB,fQ (by omega),oB,fQ (by omega),oB,fQ (by omega),oB,
   show (((n+(l.length+1):Nat)):Int)+(((x.an.l.length:Nat):Int)+((x.au.l.length:Nat):Int)+((x.ay.l.length:Nat):Int)+((x.aH.l.length:Nat):Int))=((n+l.length+1+x.an.l.length+x.au.l.length+x.ay.l.length+x.aH.l.length:Nat):Int) by omega,
   Lv _ _ (by omega),oB,
   show n+l.length+1+x.an.l.length+x.au.l.length+x.ay.l.length+x.aH.l.length+(x.an.l.map fun f=>f.az.l.length).sum=(n+1+fA x)+l.length by omega,Lw l (n+1+fA x) (by omega),hc]
  congr 2; omega
theorem Cc {l:List ag}{nl:Bool}(h:cB l<=900000000000000):zC (ai.mk ⟨nl,l⟩)=some ((cB l:Nat):Int):=by
 unfold zC;have:=Lw l 0 (by omega);rw [Nat.zero_add,Nat.zero_add] at this;rw [this]; rfl
theorem Fh:∀(n:Nat) (v:Z9),v.sz<=n->cK (cK v)=cK v
 | 0,v,h=>absurd (Z9.pos v) (by omega)
 | n+1,v,h=>by
  rw [qR v,Kh,List.map_map];have e:v.aG.l.map (cK ∘ cK)=v.aG.l.map cK:=List.map_congr_left fun x hx=>Fh n x (by have:=Z9.mg hx; omega);rw [e,List.isEmpty_map]
theorem Ut (x:bU):j7 (j7 x)=j7 x:=by unfold j7; dsimp only; rw [Fh _ _ (Nat.le_refl _)]
theorem gV {α:Type}{c:α->α}(h:∀x,c (c x)=c x) (l:List α):(l.map c).map c=l.map c:=by rw [List.map_map]; exact List.map_congr_left fun x _=>h x
theorem vb (x:aD):eX (eX x)=eX x:=by unfold eX; dsimp only [aZ]; rw [gV Ut]
theorem zD (x:Z7):b8 (b8 x)=b8 x:=by unfold b8; dsimp only [aZ]; rw [gV vb,Fh _ _ (Nat.le_refl _)]
theorem Lx (x:Z6):cA (cA x)=cA x:=by unfold cA; dsimp only [aZ]; rw [gV vb,gV zD]
theorem Fi (x:Z8):eF (eF x)=eF x:=by unfold eF; dsimp only [aZ]; rw [gV vb]
theorem Cd (x:ag):bh (bh x)=bh x:=by unfold bh; dsimp only [aZ]; rw [gV vb,gV Lx,gV Fi,gV zD]
theorem Ly {l m:List ag}(h:l.map bh=m.map bh):cL l=cL m:=by
 funext n
 have hn:∀k:List ag,(k.any fun t=>t.aa==n)=((k.map bh).any fun t=>t.aa==n):=fun k=>by rw [List.any_map]; rfl
 unfold cL; rw [hn l,hn m,h]
theorem Lz (g:Bs->Bool) (l:List Z7):bad g (l.map b8)=bad g l:=by unfold bad; rw [List.any_map]; rfl
theorem Fj (g:Bs->Bool) (l:List Z7):eP g (l.map b8)=(eP g l).map b8:=by unfold eP; rw [List.filter_map]; rfl
theorem Uu (g:Bs->Bool) (f:Z6):lQ g (cA f)=lQ g f:=by
 unfold lQ; rw [show (cA f).az.l=f.az.l.map b8 from rfl,Lz]; rfl
theorem LA (g:Bs->Bool) (l:List Z6):(d_ g (l.map cA)).map cA=(d_ g l).map cA:=by
 unfold d_;rw [List.filter_map,show lQ g ∘ cA=lQ g from funext fun f=>Uu g f,List.map_map,List.map_map,List.map_map];refine List.map_congr_left fun f _=>?_;show cA (rF g (cA f))=cA (rF g f);unfold rF cA;dsimp only [aZ];rw [Fj,gV zD,gV vb]
theorem LB (g:Bs->Bool) (t:ag):rM g (bh t)=(rM g t).map eF:=by
 unfold rM;rw [show (bh t).ak=t.ak from rfl,show (bh t).au.l=t.au.l.map eF from rfl];cases decide (t.ak=(3:Int))
 ·rfl
 ·rw [cond_true,cond_true,List.filter_map]; rfl
theorem Ce (g:Bs->Bool) (t:ag):(bif decide (t.ak=(3:Int)) then aZ (rM g t) else t.au).l=rM g t:=by
 unfold rM; cases decide (t.ak=(3:Int))<;>rfl
theorem LC (g:Bs->Bool) (t:ag):iI g (bh t)=iI g t:=by
 have h:=congrArg List.length (LA g t.an.l);rw [List.length_map,List.length_map] at h;unfold iI;rw [LB,show (bh t).ay.l=t.ay.l.map b8 from rfl,show (bh t).an.l=t.an.l.map cA from rfl,Lz,Fj,List.length_map,List.length_map,h]
noncomputable def rN (g:Bs->Bool) (t:ag):ag:=bh (rT g t)
theorem LD (g:Bs->Bool) (t:ag):rN g (bh t)=rN g t:=by
 unfold rN;have h:∀t:ag,bh (rT g t)=ag.mk t.ak t.aa (aZ (t.aH.l.filter fun x=>!g x)) (aZ (t.aM.l.map eX)) (aZ ((d_ g t.an.l).map cA)) (aZ ((rM g t).map eF)) (aZ ((eP g t.ay.l).map b8)):=fun t=>by
  unfold bh rT; dsimp only; rw [Ce]; rfl
 rw [h,h,LB,show (bh t).ay.l=t.ay.l.map b8 from rfl,show (bh t).an.l=t.an.l.map cA from rfl,show (bh t).aM.l=t.aM.l.map eX from rfl,Fj,gV zD,gV Fi,gV vb,LA];rfl
noncomputable def rd (n:List ag):List ag:=(n.filter (iI (cL n))).map (rN (cL n))
theorem LF {l n:List ag}(h:l.map bh=n):((l.filter (iI (cL l))).map (rT (cL l))).map bh=rd n:=by
 have hg:cL n=cL l:=Ly (by rw [<- h,gV Cd]);unfold rd;rw [hg,<- h,List.filter_map,show iI (cL l) ∘ bh=iI (cL l) from funext fun t=>LC _ t,List.map_map,List.map_map];exact List.map_congr_left fun t _=>(LD (cL l) t).symm
theorem LG {g:Bs->Bool}{s:Sl Z7}:(gF g s).l.length<=s.l.length:=List.length_filter_le _ _
theorem LH (g:Bs->Bool) (s:Sl Z7):tH g s=bad g s.l:=by
 unfold tH bad
 congr 1; funext x; rw [Lr,Bool.not_not]
theorem Fk {g:Bs->Bool}{s:Sl Z7}(h:bad g s.l=false):(gF g s).l=eP g s.l:=by
 unfold gF eP;dsimp only;refine List.filter_congr fun x hx=>?_;have b:=List.any_eq_false.1 h x hx;rw [Lr]
 revert b
 cases g x.ax.aa<;>cases wU x<;>simp
def pF (g:Bs->Bool) (f:Z6):Z6:=Z6.mk f.aa (gF g f.az) f.ax f.aM
theorem wX (g:Bs->Bool):∀(l:List Z6) (ch:Bool),(gG g l ch).1=(l.filter (lQ g)).map (pF g)
 | [],_=>rfl
 | f::l,ch=>by
  rw [gG,List.filter_cons,LH];unfold lQ;rw [<- Bool.not_or];cases h:bad g f.az.l||g f.ax.aa
  ·simp only [cond_false,Bool.not_false,if_true,List.map_cons];rw [wX g l]; rfl
  ·simp only [cond_true,Bool.not_true];rw [wX g l]; rfl
theorem LI (g:Bs->Bool) (l:List Z6) (ch:Bool):(gG g l ch).1.map cA=(d_ g l).map cA:=by
 rw [wX];unfold d_;rw [List.map_map,List.map_map];refine List.map_congr_left fun f b=>?_;have h:=(List.mem_filter.1 b).2;unfold lQ at h;have j:bad g f.az.l=false:=by cases e:bad g f.az.l with|false=>rfl|true=>rw [e] at h; cases h
 show cA (pF g f)=cA (rF g f);unfold pF rF cA;dsimp only [aZ];rw [Fk j]
theorem Fl (g:Bs->Bool):∀(l:List Z6) (ch:Bool),(gG g l ch).2=(ch||decide (eu (gG g l ch).1<eu l))/\eu (gG g l ch).1<=eu l
 | [],ch=>by simp [gG,eu]
 | f::l,ch=>by
  rw [gG];have hc:eu (f::l)=1+f.az.l.length+eu l:=by unfold eu; rw [List.map_cons,List.sum_cons]
  cases h:tH g f.az||g f.ax.aa
  ·rw [cond_false];obtain⟨i1,i2⟩:=Fl g l (ch||pR g f.az);have hle:=LG (g:=g) (s:=f.az);have b:∀r,eu (Z6.mk f.aa (gF g f.az) f.ax f.aM::r)=1+(gF g f.az).l.length+eu r:=fun r=>by unfold eu; rw [List.map_cons,List.sum_cons]
   dsimp only;rw [b,hc,i1];refine⟨?_,by omega⟩;generalize (gG g l (ch||pR g f.az)).1=r at i2 ⊢;unfold pR;rw [Bool.or_assoc]
   congr 1
   by_cases q:(gF g f.az).l.length<f.az.l.length
   ·rw [dT (show (((gF g f.az).l.length:Nat):Int)<((f.az.l.length:Nat):Int) by omega),dT (show 1+(gF g f.az).l.length+eu r<1+f.az.l.length+eu l by omega)]; rfl
   ·rw [dF (show ¬(((gF g f.az).l.length:Nat):Int)<((f.az.l.length:Nat):Int) by omega),Bool.false_or];exact decide_eq_decide.2 (by omega)
  ·rw [cond_true];obtain⟨i1,i2⟩:=Fl g l true;rw [hc,i1,dT (show eu (gG g l true).1<1+f.az.l.length+eu l by omega)];exact⟨by simp,by omega⟩
theorem Uv (g:Bs->Bool) (l:List Z6) (a b:Bool):(gG g l a).1=(gG g l b).1:=by rw [wX,wX]
theorem Cf (g:Bs->Bool) (t:ag):(tI g t).l=rM g t:=by
 unfold tI rM; cases decide (t.ak=(3:Int))<;>rfl
theorem LJ (g:Bs->Bool) (t:ag):(rM g t).length<=t.au.l.length:=by
 unfold rM; cases decide (t.ak=(3:Int))
 ·exact Nat.le_refl _
 ·exact List.length_filter_le _ _
theorem Uw (g:Bs->Bool) (t:ag) (ch:Bool):tJ g t ch=(ch||decide (fA (jw g t ch)<fA t))/\fA (jw g t ch)<=fA t:=by
 obtain⟨i1,i2⟩:=Fl g t.an.l ch;have hi:=LG (g:=g) (s:=t.ay);have hm:=LJ g t;have k:(wY g t).l.length<=t.aH.l.length:=List.length_filter_le _ _;have f:fA t=eu t.an.l+t.au.l.length+t.ay.l.length+t.aH.l.length:=rfl;have j:fA (jw g t ch)=eu (gG g t.an.l ch).1+(rM g t).length+(gF g t.ay).l.length+(wY g t).l.length:=by rw [<- Cf]; rfl
 unfold tJ pR;rw [i1,f,j,Cf];refine⟨?_,by omega⟩;rw [Bool.or_assoc,Bool.or_assoc]
 congr 1
 generalize eu (gG g t.an.l ch).1=a at *;by_cases b:a<eu t.an.l
 ·rw [dT b,Bool.true_or,dT (by omega)]
 ·rw [dF b,Bool.false_or];by_cases m:(gF g t.ay).l.length<t.ay.l.length
  ·rw [dT (show (((gF g t.ay).l.length:Nat):Int)<((t.ay.l.length:Nat):Int) by omega),Bool.true_or,dT (by omega)]
  ·rw [dF (show ¬(((gF g t.ay).l.length:Nat):Int)<((t.ay.l.length:Nat):Int) by omega),Bool.false_or];exact decide_eq_decide.2 (by omega)
theorem LK (g:Bs->Bool) (t:ag) (a b:Bool):jw g t a=jw g t b/\oh g t a=oh g t b:=by
 unfold jw oh tK;rw [Uv g t.an.l a b];exact⟨rfl,rfl⟩
theorem Cg (g:Bs->Bool):∀(l:List ag) (ch:Bool),(j9 g l ch).1=(l.filter fun t=>oh g t false).map fun t=>jw g t false
 | [],_=>rfl
 | t::l,ch=>by
  rw [j9,List.filter_cons,(LK g t ch false).1,(LK g t ch false).2];cases oh g t false
  ·rw [cond_false,Cg g l true]; rfl
  ·rw [cond_true,if_pos rfl,List.map_cons,Cg g l]
theorem wZ (t:ag) (l:List ag):cB (t::l)=1+fA t+cB l:=by unfold cB; rw [List.map_cons,List.sum_cons]
theorem Fm (g:Bs->Bool):∀(l:List ag) (ch:Bool),(j9 g l ch).2=(ch||decide (cB (j9 g l ch).1<cB l))/\cB (j9 g l ch).1<=cB l
 | [],ch=>by simp [j9,cB]
 | t::l,ch=>by
  rw [j9,wZ];cases oh g t ch
  ·rw [cond_false];obtain⟨i1,i2⟩:=Fm g l true;rw [i1,dT (show cB (j9 g l true).1<1+fA t+cB l by omega)];exact⟨by simp,by omega⟩
  ·rw [cond_true];obtain⟨i1,i2⟩:=Fm g l (tJ g t ch);obtain⟨c1,c2⟩:=Uw g t ch;dsimp only;rw [wZ,i1];refine⟨?_,by omega⟩;generalize (j9 g l (tJ g t ch)).1=r at i2 ⊢;rw [c1,Bool.or_assoc]
   congr 1
   by_cases q:fA (jw g t ch)<fA t
   ·rw [dT q,dT (show 1+fA (jw g t ch)+cB r<1+fA t+cB l by omega)]; rfl
   ·rw [dF q,Bool.false_or];exact decide_eq_decide.2 (by omega)
structure Ch (t:ag):Prop where
 k:t.ak=1\/t.ak=2\/t.ak=3\/t.ak=4\/t.ak=5
 f:t.ak=1\/t.ak=2\/t.an.l=[]
 m:t.ak=3\/t.ak=4\/t.au.l=[]
 i:t.ak=5\/t.ay.l=[]
theorem Ux {g:Bs->Bool}{t:ag}(h:Ch t):oh g t false=iI g t:=by
 have hl:(tK g t false).length=(d_ g t.an.l).length:=by
  have:=congrArg List.length (LI g t.an.l false);rw [List.length_map,List.length_map] at this; exact this
 have p:t.ay.l=[]->bad g t.ay.l=false/\eP g t.ay.l=[]:=fun e=>by rw [e]; exact⟨rfl,rfl⟩
 have em:t.au.l=[]->(rM g t)=[]:=fun e=>by unfold rM; rw [e]; cases decide (t.ak=(3:Int))<;>rfl
 have q:t.an.l=[]->(d_ g t.an.l)=[]:=fun e=>by rw [e]; rfl
 unfold oh iI;rw [hl,Cf,LH];rcases h.k with k|k|k|k|k
 ·have b:t.ay.l=[]:=by rcases h.i with i|i; (rw [k] at i; cases i); exact i
  have j:t.au.l=[]:=by rcases h.m with i|i|i; (rw [k] at i; cases i); (rw [k] at i; cases i); exact i
  rw [k,(p b).1,(p b).2,em j];simp
 ·have b:t.ay.l=[]:=by rcases h.i with i|i; (rw [k] at i; cases i); exact i
  have j:t.au.l=[]:=by rcases h.m with i|i|i; (rw [k] at i; cases i); (rw [k] at i; cases i); exact i
  rw [k,(p b).1,(p b).2,em j];simp
 ·have b:t.ay.l=[]:=by rcases h.i with i|i; (rw [k] at i; cases i); exact i
  have j:t.an.l=[]:=by rcases h.f with i|i|i; (rw [k] at i; cases i); (rw [k] at i; cases i); exact i
  rw [k,(p b).1,(p b).2,q j];simp
 ·have b:t.ay.l=[]:=by rcases h.i with i|i; (rw [k] at i; cases i); exact i
  have j:t.an.l=[]:=by rcases h.f with i|i|i; (rw [k] at i; cases i); (rw [k] at i; cases i); exact i
  rw [k,(p b).1,(p b).2,q j];simp
 ·have b:t.an.l=[]:=by rcases h.f with i|i|i; (rw [k] at i; cases i); (rw [k] at i; cases i); exact i
  have j:t.au.l=[]:=by rcases h.m with i|i|i; (rw [k] at i; cases i); (rw [k] at i; cases i); exact i
  rw [k,em j,q b];cases e:bad g t.ay.l
  ·rw [Fk e]; simp
  ·simp
theorem Uy {g:Bs->Bool}{t:ag}(h:iI g t=true):bh (jw g t false)=rN g t:=by
 unfold iI at h;have b:bad g t.ay.l=false:=by cases e:bad g t.ay.l with|false=>rfl|true=>rw [e] at h; cases h
 unfold rN bh jw rT tK;dsimp only;rw [LI,Cf,Fk b,Ce];rfl
theorem LL {l n:List ag}(h:l.map bh=n) (b:∀t∈l,Ch t):(gW l).1.map bh=rd n:=by
 have hg:cL n=cL l:=Ly (by rw [<- h,gV Cd]);unfold rd gW;rw [Cg,hg,<- h,List.filter_map,show iI (cL l) ∘ bh=iI (cL l) from funext fun t=>LC _ t,List.map_map,List.map_map,
  List.filter_congr fun t ht=>Ux (g:=cL l) (b t ht)]
 refine List.map_congr_left fun t ht=>?_;show bh (jw (cL l) t false)=rN (cL l) (bh t);rw [LD,Uy (List.mem_filter.1 ht).2]
theorem UA (l:List Z6):eu (l.map cA)=eu l:=by
 unfold eu; rw [List.map_map]
 congr 1
 refine List.map_congr_left fun f _=>?_;show 1+(f.az.l.map b8).length=_;rw [List.length_map]
theorem LM (t:ag):fA (bh t)=fA t:=by
 unfold fA;rw [show (bh t).an.l=t.an.l.map cA from rfl,show (bh t).au.l=t.au.l.map eF from rfl,show (bh t).ay.l=t.ay.l.map b8 from rfl,show (bh t).aH.l=t.aH.l from rfl,UA,List.length_map,List.length_map]
theorem q8 (l:List ag):cB (l.map bh)=cB l:=by
 unfold cB; rw [List.map_map]
 congr 1
 refine List.map_congr_left fun t _=>?_;show 1+fA (bh t)=_;rw [LM]
theorem Fo (l:List ag):(gW l).2=decide (cB (gW l).1<cB l):=by
 unfold gW; rw [(Fm _ l false).1,Bool.false_or]
end Go.Proofs
