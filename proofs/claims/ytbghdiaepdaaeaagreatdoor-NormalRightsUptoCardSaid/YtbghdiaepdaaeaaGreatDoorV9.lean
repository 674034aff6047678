import Derived.Test.YtbghdiaepdaaeaaGreatDoorV8
set_option maxRecDepth 100000
set_option maxHeartbeats 2000000
set_option linter.unusedVariables false
set_option linter.unusedSimpArgs false
namespace Go.Proofs
open Go Go.Ab
theorem tW {s r:Sl Z5}{T:Nat}(b:T<=1099511627776) (h:s.l.length+r.l.length<=T):∃v,aZ 24 s r=some v/\v.l.length=s.l.length+r.l.length:=⟨_,iw (by decide) (Nat.le_trans h b),by simp⟩
theorem Tl.tW {s:Sl Z5}{o:Option (Sl Z5)}{b c T:Nat}{k:Sl Z5->Option (Sl Z5)}(f:T<=1099511627776) (h:Tl o b) (i:s.l.length+b<=T) (hk:∀r:Sl Z5,r.l.length<=s.l.length+b->Tl (k r) c):Tl (o.bind fun x=>(aZ 24 s x).bind k) c:=by
 obtain⟨r,h1,j⟩:=h;obtain⟨v,g,m⟩:=Go.Proofs.tW (s:=s) (r:=r) f (by omega);rw [h1,oB,g,oB];exact hk v (by omega)
theorem Vo (a:ax) (n:Bs):(gm a n).1∈a.bC.l\/((gm a n).1.aO.l=[]/\(gm a n).1.aJ.aK.l=[]):=by
 unfold gm;simp only [Ab.on];have:∀l:List Z6,(match iK n l with|Sum.inl _=>True|Sum.inr e=>e.1∈l):=by
  intro l;induction l with
  | nil=>exact trivial
  | cons x r b =>
   rw [iK];simp only [Ab.on];cases hq:x.ai==n
   ·simp only [cond_false]
    revert b
    cases iK n r with
    | inl u=>intro _; exact trivial
    | inr e=>intro b; exact .tail _ b
   ·exact .head _
 have h:=this a.bC.l
 revert h
 cases iK n a.bC.l with
 | inl u=>intro _; exact .inr ⟨rfl,rfl⟩
 | inr e=>intro h; exact .inl h
theorem Kg {f:Z6}(h:f.sz<=1048576):(∀x∈f.aO.l,x.ai.length<=1048576)/\f.ai.length<=1048576/\f.aJ.aK.l.length<=1048576:=by
 have h1:=f.bM;have g:=Bs.dN f.ai;have i:=f.aJ.bM;have j:=Sl.dN (f:=fun _:Int=>1) f.aJ.aK (fun _=>Nat.le_refl _);refine⟨fun x b=>?_,by omega,by omega⟩;have k:=Sl.dV (f:=Z8.sz) b;have m:=x.bM;have o:=Bs.dN x.ai;omega
theorem Kh (p:Bs) (i:p.length<=10000000) (x:Z6×Bool):∀(l:List Z8) (s:Sl Z5),(∀y∈l,y.ai.length<=1048576)->s.l.length+l.length<=1000000->Tl (ko p x l s) (s.l.length+l.length)
 | [],s,_,_=>⟨s,rfl,by simp⟩
 | y::l,s,f,j=>by
  have hn:=f y (.head _);simp only [List.length_cons] at j ⊢;rw [ko];simp only [Ab.on];have g:∀v:Sl Z5,v.l.length<=s.l.length+1->Tl (ko p x l v) (s.l.length+(l.length+1)):=fun v hv=>(Kh p i x l v (fun z k=>f z (.tail _ k)) (by omega)).mono (by omega);have more:Tl (Option.bind ((cR p ([40]:Bs)).bind fun m=>(cR m y.ai).bind fun o=>(cR o ([41]:Bs)).bind fun q=>(aZ 24 s (⟨false,[(Z5.mk (22:Int) q)]⟩:Sl Z5)).bind fun r=>some r) fun v=>ko p x l v) (s.l.length+(l.length+1)):=by
   rw [fG (by simp; omega),oB,fG (by simp; omega),oB,fG (by simp; omega),oB];exact(Tl.nU (Nat.le_refl _) (by omega)).bind fun v hv=>g v hv
  cases (iI x.1.aO y.ai).2
  ·simp only [aN,Bool.not_false,Bool.not_true,Bool.true_or,cond_true];exact more
  ·obtain⟨b,t⟩:=Vn (iI x.1.aO y.ai).1.aJ y.aJ;simp only [aN,Bool.not_true,Bool.not_false,if_true,cond_true,Bool.false_or,t,oB];cases b
   ·exact more
   ·exact g s (by omega)
theorem Ki (a:Z6) (p:Bs) (g:p.length<=10000000):∀(l:List Z8) (s:Sl Z5),(∀y∈l,y.ai.length<=1048576)->s.l.length+l.length<=1000000->Tl (jA a p l s) (s.l.length+l.length)
 | [],s,_,_=>⟨s,rfl,by simp⟩
 | y::l,s,b,i=>by
  have hn:=b y (.head _);simp only [List.length_cons] at i ⊢;rw [jA];simp only [Ab.on];have f:∀v:Sl Z5,v.l.length<=s.l.length+1->Tl (jA a p l v) (s.l.length+(l.length+1)):=fun v hv=>(Ki a p g l v (fun z j=>b z (.tail _ j)) (by omega)).mono (by omega);have both:∀w:Bool,Tl (Option.bind (bif w then((cR p ([40]:Bs)).bind fun k=>(cR k y.ai).bind fun m=>(cR m ([41]:Bs)).bind fun o=>(aZ 24 s (⟨false,[(Z5.mk (22:Int) o)]⟩:Sl Z5)).bind fun q=>some q) else some s) fun v=>jA a p l v) (s.l.length+(l.length+1)):=by
   intro w;cases w
   ·exact f s (by omega)
   ·rw [cond_true,fG (by simp; omega),oB,fG (by simp; omega),oB,fG (by simp; omega),oB];exact(Tl.nU (Nat.le_refl _) (by omega)).bind fun v hv=>f v hv
  exact both _
theorem Vp {d:aq}(i:d.aA.l.length<=1048576){a:ax}(u:a.sz<=1048576) (j:Sm a){f:Z6}(k:f.sz<=1048576) (x:f.aO.l.length<=1000):Tl (sP d a f) 2001:=by
 obtain⟨g1,g2,g3⟩:=Kg k;have h1:=a.bM;have z:=Bs.dN a.ai;have g:(∀y∈(gm a f.ai).1.aO.l,y.ai.length<=1048576)/\(gm a f.ai).1.aO.l.length<=1000/\(gm a f.ai).1.aJ.aK.l.length<=1048576:=by
  rcases Vo a f.ai with h|⟨h,h'⟩
  ·have B:=Sl.dV (f:=Z6.sz) h;obtain⟨k1,k2,m⟩:=Kg (f:=(gm a f.ai).1) (by omega);exact⟨k1,j.2.2.2.2 _ h,m⟩
  ·rw [h,h']; exact⟨fun _ h=>(by cases h),by simp,by simp⟩
 unfold sP;rw [fG (by simp; omega),oB,fG (by simp; omega),oB];simp only [Ab.on];cases (gm a f.ai).2
 ·exact⟨_,rfl,by simp⟩
 ·obtain⟨v,hv⟩:=yS i F0 (gm a f.ai).1.aJ f.aJ (by rw [dM]; omega) g.2.2 g3;rw [Bool.not_true,cond_false,show Bv d (gm a f.ai).1.aJ f.aJ=some v from hv,oB];have first:∀w:Bool,Tl (bif w then((aZ 24 (Sl.nil:Sl Z5) (⟨false,[(Z5.mk (10:Int) (a.ai++[46]++f.ai))]⟩:Sl Z5)).bind fun o=>some o) else(some (Sl.nil:Sl Z5))) 1:=by
   intro w;cases w
   ·exact⟨Sl.nil,rfl,by simp [Sl.nil]⟩
   ·exact Tl.nU (s:=Sl.nil) (b:=0) (Nat.le_refl _) (by omega)
  refine(first (!v)).bind fun r hr=>?_;refine Tl.bind (a:=1001) ((Kh _ (by simp; omega) _ f.aO.l r g1 (by omega)).mono (by omega)) fun p C=>?_;refine Tl.bind (a:=2001) ((Ki f _ (by simp; omega) _ p g.1 (by have:=g.2.1; omega)).mono (by have:=g.2.1; omega)) fun q t=>?_;exact⟨q,rfl,t⟩
theorem Kj {d:aq}(b:d.aA.l.length<=1048576){a:ax}(g:a.sz<=1048576) (i:Sm a){T:Nat}(j:T<=1099511627776):∀(l:List Z6) (s:Sl Z5),(∀f∈l,f.sz<=1048576/\f.aO.l.length<=1000)->s.l.length+2001*l.length<=T->Tl (l7 d a l s) (s.l.length+2001*l.length)
 | [],s,_,_=>⟨s,rfl,by simp⟩
 | f::l,s,k,h=>by
  simp only [List.length_cons] at h ⊢;obtain⟨f1,f2⟩:=k f (.head _);rw [l7];simp only [Ab.on];refine Tl.tW j (Vp b g i f1 f2) (Nat.le_trans (Nat.add_le_add_left (Nat.le_mul_of_pos_right 2001 (Nat.succ_pos l.length)) s.l.length) h) fun r hr=>?_;exact(Kj b g i j l r (fun z m=>k z (.tail _ m)) (by omega)).mono (by omega)
def yT (d:aq):Prop:=∀x∈d.aA.l,x.sz<=1048576/\Sm x
theorem Vq {d:aq}(h:yT d) (n:Bs):(∀f∈(cU d n).1.bC.l,f.sz<=1048576/\f.aO.l.length<=1000)/\(cU d n).1.bC.l.length<=1000:=by
 have key:(cU d n).1∈d.aA.l\/(cU d n).1.bC.l=[]:=by
  unfold cU;simp only [Ab.on];have:∀l:List ax,(match gU n l with|Sum.inl _=>True|Sum.inr e=>e.1∈l):=by
   intro l;induction l with
   | nil=>exact trivial
   | cons a r b =>
    rw [gU];simp only [Ab.on];cases hq:a.ai==n
    ·simp only [cond_false]
     revert b
     cases gU n r with
     | inl u=>intro _; exact trivial
     | inr e=>intro b; exact .tail _ b
    ·exact .head _
  have h:=this d.aA.l
  revert h
  cases gU n d.aA.l with
  | inl u=>intro _; exact .inr rfl
  | inr e=>intro h; exact .inl h
 rcases key with hk|hk
 ·obtain⟨h1,g⟩:=h _ hk;refine⟨fun f i=>⟨?_,g.2.2.2.2 f i⟩,g.1⟩;have j:=Sl.dV (f:=Z6.sz) i;have k:=(cU d n).1.bM;omega
 ·rw [hk]; exact⟨fun _ h=>(by cases h),by simp⟩
theorem Kk {d:aq}(f:d.aA.l.length<=1048576) (g:yT d){a:ax}(j:a.sz<=1048576) (k:Sm a){T:Nat}(b:T<=1099511627776):∀(l:List Bs) (i:Nat) (s:Sl Z5),s.l.length+2001000*l.length<=T->Tl (kq d a l i s) (s.l.length+2001000*l.length)
 | [],i,s,_=>⟨s,rfl,by simp⟩
 | n::l,i,s,h=>by
  simp only [List.length_cons] at h ⊢;rw [kq];simp only [Ab.on];have m:∀v:Sl Z5,v.l.length<=s.l.length+2001000->Tl (kq d a l (i+1) v) (s.l.length+2001000*(l.length+1)):=fun v hv=>(Kk f g j k b l (i+1) v (by omega)).mono (by omega);obtain⟨k1,k2⟩:=Vq g n;have both:∀(w:Bool) (e:Int),Tl (Option.bind (bif w then((aZ 24 s (⟨false,[(Z5.mk e a.ai)]⟩:Sl Z5)).bind fun o=>some o) else(Option.bind (l7 d a (cU d n).1.bC.l s) fun p=>some p)) fun v=>kq d a l (i+1) v) (s.l.length+2001000*(l.length+1)):=by
   intro w e;cases w
   ·obtain⟨r,q,t⟩:=Kj f j k b _ s k1 (by omega);rw [cond_false,q];exact m r (by omega)
   ·obtain⟨v,v1,v2⟩:=tW (s:=s) (r:=⟨false,[Z5.mk e a.ai]⟩) b (by simp; omega);rw [cond_true,v1];exact m v (by rw [v2]; simp)
  exact both _ _
theorem Kl {d:aq}{a:ax}(g:a.ai.length<=1048576){T:Nat}(b:T<=1099511627776):∀(l:List Z9) (i:Nat) (s:Sl Z5),(∀m∈l,m.ai.length<=1048576)->s.l.length+l.length<=T->Tl (kr d a l i s) (s.l.length+l.length)
 | [],i,s,_,_=>⟨s,rfl,by simp⟩
 | m::l,i,s,hm,h=>by
  have hn:=hm m (.head _);simp only [List.length_cons] at h ⊢;rw [kr];simp only [Ab.on];have f:∀v:Sl Z5,v.l.length<=s.l.length+1->Tl (kr d a l (i+1) v) (s.l.length+(l.length+1)):=fun v hv=>(Kl g b l (i+1) v (fun z j=>hm z (.tail _ j)) (by omega)).mono (by omega);have both:∀(w:Bool) (e:Int),Tl (Option.bind (bif w then((cR a.ai ([46]:Bs)).bind fun k=>(cR k m.ai).bind fun o=>(aZ 24 s (⟨false,[(Z5.mk e o)]⟩:Sl Z5)).bind fun p=>some p) else(some s)) fun v=>kr d a l (i+1) v) (s.l.length+(l.length+1)):=by
   intro w e;cases w
   ·exact f s (by omega)
   ·rw [cond_true,fG (by simp; omega),oB,fG (by simp; omega),oB];obtain⟨v,v1,v2⟩:=tW (s:=s) (r:=⟨false,[Z5.mk e (a.ai++[46]++m.ai)]⟩) b (by simp; omega);rw [v1];exact f v (by rw [v2]; simp)
  exact both _ _
theorem Vr {d:aq}(f:d.aA.l.length<=1048576) (g:yT d){a:ax}(i:a.sz<=1048576) (j:Sm a) (k:a.bU.l.length<=600):Tl (qI d a) 1200600000:=by
 unfold qI;have h1:2001000*a.bU.l.length<=2001000*600:=Nat.mul_le_mul_left _ k;obtain⟨r,m,b⟩:=Kk f g i j (T:=1099511627776) (Nat.le_refl _) a.bU.l 0 Sl.nil (by
  show 0+2001000*a.bU.l.length<=_;rw [Nat.zero_add];exact Nat.le_trans h1 (by decide))
 rw [m];refine⟨r,rfl, ?_⟩;rw [show (Sl.nil:Sl Z5).l.length=0 from rfl,Nat.zero_add] at b;exact Nat.le_trans b h1
theorem Vt {d:aq}{a:ax}(j:a.sz<=1048576) (b:Sm a):Tl (qJ d a) 1200600000:=by
 unfold qJ;have h1:=a.bM;have k:=Bs.dN a.ai;have o:=b.2.1;obtain⟨r,g,i⟩:=Kl (d:=d) (a:=a) (by omega) (T:=1000) (by decide) a.bI.l 0 Sl.nil (fun m hm=>by
  have p:=Sl.dV (f:=Z9.sz) hm;have q:=m.bM;have s:=Bs.dN m.ai;omega) (by simp only [Sl.nil,List.length_nil]; omega)
 rw [g];refine⟨r,rfl, ?_⟩;simp only [Sl.nil,List.length_nil] at i;omega
theorem Km {d:aq}{C T:Nat}(b:T<=1099511627776):∀(l:List ax) (s:Sl Z5),(∀a∈l,Tl (qI d a) C/\Tl (qJ d a) C)->s.l.length+C*l.length<=T->Tl (lq d l s) (s.l.length+C*l.length)
 | [],s,_,_=>⟨s,rfl,by simp⟩
 | a::l,s,hC,h=>by
  obtain⟨c1,c2⟩:=hC a (.head _);rw [List.length_cons,Nat.mul_succ] at h;rw [List.length_cons,Nat.mul_succ];rw [lq];simp only [Ab.on];have g:s.l.length+C<=T:=Nat.le_trans (by generalize C*l.length=m; omega) h;have f:∀v:Sl Z5,v.l.length<=s.l.length+C->Tl (lq d l v) (s.l.length+(C*l.length+C)):=fun v hv=>by
   refine(Km b l v (fun z i=>hC z (.tail _ i)) ?_).mono ?_
   ·clear b; revert h; generalize C*l.length=m; intro h; omega
   ·clear b; revert h; generalize C*l.length=m; intro h; omega
  have both:∀{o:Option (Sl Z5)},Tl o C->Tl (Option.bind (o.bind fun j=>(aZ 24 s j).bind fun k=>some k) fun v=>lq d l v) (s.l.length+(C*l.length+C)):=by
   intro o p;refine Tl.bind (a:=s.l.length+C) (Tl.tW b p g fun r hr=>⟨r,rfl,hr⟩) fun v hv=>f v hv
  cases decide (a.an=1)
  ·cases decide (a.an=3)
   ·exact f s (by omega)
   ·exact both c2
  ·exact both c1
theorem PJ {d:aq}(k:d.sz<=1048576) (h:d.aA.l.length<=600/\∀x∈d.aA.l,Sm x/\x.bU.l.length<=600):∃r,sQ d=some r/\r.l.length<=1000000000000:=by
 have b:yT d:=fun x i=>by
  have h1:=d.bM;have m:=Sl.dV (f:=ax.sz) i;exact⟨by omega,(h.2 x i).1⟩
 have j:1200600000*d.aA.l.length<=1200600000*600:=Nat.mul_le_mul_left _ h.1;obtain⟨r,e,hl⟩:=Km (d:=d) (C:=1200600000) (T:=1099511627776) (Nat.le_refl _) d.aA.l Sl.nil (fun a g=>⟨Vr (by omega) b (b a g).1 (b a g).2 (h.2 a g).2,Vt (b a g).1 (b a g).2⟩) (by
  show 0+1200600000*d.aA.l.length<=_;rw [Nat.zero_add];exact Nat.le_trans j (by decide))
 unfold sQ;rw [e];refine⟨r,rfl, ?_⟩;rw [show (Sl.nil:Sl Z5).l.length=0 from rfl,Nat.zero_add] at hl;exact Nat.le_trans hl (Nat.le_trans j (by decide))
def jH (w:List Int):Bool:=w.head?==some 1
def iY (w:List Int):Bool:=w.head?==some 2
def eW (s:Sl Int):Sl Int:=bif jH s.l then⟨s.nl,s.l.drop 1⟩ else s
def pT (t:az):az:=⟨t.ai,eW t.aK⟩
def yU (t:az):az:=⟨t.ai,⟨(eW t.aK).nl,(eW t.aK).l.drop 1⟩⟩
theorem Kn {s:Sl Int}(h:fH s):px s=some s:=by
 unfold px;obtain⟨nl,l⟩:=s;cases nl with
 | true=>have:=h.1 rfl; simp only at this; subst this; rfl
 | false =>
  simp only [cond_false];rw [iw (by omega) (by have:=h.2; simp at this ⊢; omega)];simp
theorem vQ (t:az):gq t=jH t.aK.l:=by
 unfold gq jH on;cases t.aK.l with
 | nil=>rfl
 | cons a r=>simp; by_cases h:a=1<;>simp [h]
theorem Ko {w:List Int}(h:jH w=true):1<=w.length:=by cases w<;>simp [jH] at h ⊢
theorem Em {α:Type}{s:Sl α}(n:Nat) (h:fH s):fH ⟨s.nl,s.l.drop n⟩:=⟨fun e=>by simp [h.1 e],by have:=h.2; simp; omega⟩
theorem Vu {s:Sl Int}(h:fH s):fH (eW s):=by
 unfold eW;cases jH s.l with
 | true=>exact Em 1 h
 | false=>exact h
theorem Kq {t:az}(h:fH t.aK):fH (yU t).aK:=Em 1 (Vu h)
theorem Kr {t:az}(h:fH t.aK):qW t=some (pT t):=by
 unfold qW pT eW on;simp only [vQ];cases hn:jH t.aK.l with
 | true =>
  simp only [cond_true];rw [wR (Ko hn)];simp only [oB];rw [Kn (Em 1 h)]; rfl
 | false =>
  simp only [cond_false,oB];rw [Kn h]; rfl
theorem Ks {t:az}(h:fH t.aK):qX t=some (iY (eW t.aK).l):=by
 unfold qX;rw [Kr h];simp only [oB,on,pT,iY];cases (eW t.aK).l with
 | nil=>rfl
 | cons a r=>simp; by_cases h:a=2<;>simp [h]
theorem Kt {w:List Int}(h:iY w=true):1<=w.length:=by cases w<;>simp [iY] at h ⊢
theorem Ku {t:az}(h:fH t.aK):pF t=some (bif iY (eW t.aK).l then(yU t,true) else(⟨[],Sl.nil⟩,false)):=by
 unfold pF;rw [Ks h];simp only [oB];cases hl:iY (eW t.aK).l with
 | false=>rfl
 | true =>
  simp only [Bool.not_true,cond_false,cond_true];rw [Kr h];simp only [oB,pT];rw [wR (Kt hl)];rfl
theorem findAux (l:List ax) (s:Bs):me s l=(match l.find? (fun t=>t.ai==s) with|some t=>Sum.inr (t,true)|none=>Sum.inl ()):=by
 induction l with
 | nil=>rfl
 | cons a r b =>
  rw [me,List.find?_cons];simp only [on,b];cases a.ai==s<;>rfl
def bQ (l:List ax) (s:Bs):ax×Bool:=match l.find? (fun t=>t.ai==s) with|some t=>(t,true)|none=>(ax.zero,false)
theorem j8 (d:aq) (s:Bs):eL d s=bQ d.aA.l s:=by
 unfold eL bQ on;rw [findAux];cases d.aA.l.find? (fun t=>t.ai==s)<;>rfl
theorem sA (l:List ax) (s:Bs):(bQ l s).1=ax.zero\/(bQ l s).1∈l:=by
 unfold bQ;cases h:l.find? (fun t=>t.ai==s) with
 | none=>exact .inl rfl
 | some t=>exact .inr (List.mem_of_find?_eq_some h)
theorem Vv (l:List Z6) (s:Bs):mo s l=(match l.find? (fun t=>t.ai==s) with|some t=>Sum.inr (t,true)|none=>Sum.inl ()):=by
 induction l with
 | nil=>rfl
 | cons a r b =>
  rw [mo,List.find?_cons];simp only [on,b];cases a.ai==s<;>rfl
def tX (l:List Z6) (s:Bs):Z6×Bool:=match l.find? (fun t=>t.ai==s) with|some t=>(t,true)|none=>(Z6.zero,false)
theorem Vw (t:ax) (s:Bs):kF t s=tX t.bC.l s:=by
 unfold kF tX on;rw [Vv];cases t.bC.l.find? (fun t=>t.ai==s)<;>rfl
theorem Vx (l:List Z8) (s:Bs):mq s l=(match l.find? (fun t=>t.ai==s) with|some t=>Sum.inr (t,true)|none=>Sum.inl ()):=by
 induction l with
 | nil=>rfl
 | cons a r b =>
  rw [mq,List.find?_cons];simp only [on,b];cases a.ai==s<;>rfl
def nV (l:List Z8) (s:Bs):Z8×Bool:=match l.find? (fun t=>t.ai==s) with|some t=>(t,true)|none=>(Z8.zero,false)
theorem yV (t:Sl Z8) (s:Bs):iV t s=nV t.l s:=by
 unfold iV nV on;rw [Vx];cases t.l.find? (fun t=>t.ai==s)<;>rfl
theorem Vy (a:Bs):nw a=some (nQ a):=by
 unfold nw nQ vf ve on
 match a with
 | []=>rfl
 | [x]=>rfl
 | x::y::r =>
  have e:decide ((2:Int)<=(((x::y::r).length:Nat):Int))=true:=by simp; omega
  have g:decide (((([95,95]:Bs).length:Nat):Int)<=(((x::y::r).length:Nat):Int))=true:=by simp; omega
  have c:∀z:UInt8,decide (((z.toNat:Nat):Int)=95)=(z==95):=fun z=>by
   rw [show (z==95)=decide (z=95) from rfl]
   congr 1
   apply propext
   constructor
   ·intro h; apply UInt8.toNat_inj.1; simp at h ⊢; omega
   ·intro h; subst h; rfl
  have hl:(2:Int)<=(r.length:Nat)+1+1:=by omega
  have i:¬x=95->(x==95)=false:=fun h=>by simpa using h
  simp only [aN,e,g,if_true,oB,List.getElem?_cons_zero,List.getElem?_cons_succ,c,Bool.true_and,cond_true,List.length_cons,List.length_nil,List.take_succ_cons,List.take_zero];by_cases b:x=95
  ·subst b;by_cases f:y=95
   ·subst f; simp [hl]
   ·simp [hl,f]
  ·simp [hl,b]
theorem Kv (x:Int):((((decide ((97:Int)<=x)&&decide (x<=(122:Int)))||(decide ((65:Int)<=x)&&decide (x<=(90:Int))))||(decide ((48:Int)<=x)&&decide (x<=(57:Int))))||decide (x=(95:Int)))=(lT x||qx x):=by
 unfold lT qx;rw [Bool.eq_iff_iff];simp only [Bool.or_eq_true,Bool.and_eq_true,decide_eq_true_eq];constructor
 ·rintro (((h|h)|h)|h)
  ·exact .inl (.inl (.inr h))
  ·exact .inl (.inl (.inl h))
  ·exact .inr h
  ·exact .inl (.inr h)
 ·rintro (((h|h)|h)|h)
  ·exact .inl (.inl (.inr h))
  ·exact .inl (.inl (.inl h))
  ·exact .inr h
  ·exact .inl (.inr h)
theorem Kw:∀(l:List UInt8) (i:Nat),0<i->nq l i=mm l
 | [],_,_=>rfl
 | h::r,i,hi=>by
  have h0:decide (((i:Nat):Int)=0)=false:=dF (by omega);rw [nq,mm,Kw r (i+1) (by omega)];simp only [Ab.on,h0,Kv];cases lT ((h.toNat:Nat):Int)
  ·simp only [Bool.not_false,Bool.and_self,cond_true,Bool.true_and,Bool.false_or]
  ·rfl
theorem Vz (x:Int) (h:lT x=true):((decide ((48:Int)<=x))&&(decide (x<=(57:Int))))=false:=by
 unfold lT at h;rw [Bool.and_eq_false_iff];simp only [Bool.or_eq_true,Bool.and_eq_true,decide_eq_true_eq] at h;by_cases b:x<=57
 ·left; apply dF; omega
 ·right; exact dF b
theorem Kx (s:Bs):nP s=some (eE s):=by
 unfold nP eE;cases s with
 | nil=>rfl
 | cons h r =>
  have i:((h::r:Bs)==[])=false:=rfl;have j:decide ((((h::r:Bs).length:Nat):Int)<1)=false:=dF (by simp only [List.length_cons]; omega);rw [i,j];simp only [Bool.false_or];cases decide ((64:Int)<(((h::r:Bs).length:Nat):Int))
  ·simp only [Bool.not_false,aN,if_true,cond_false,Bool.true_and,Bool.false_or];rw [show ((h::r:Bs)[0]?)=some h from rfl];simp only [oB];rw [nq,mm,Kw r 1 (by omega)];simp only [Ab.on,Kv];generalize ((h.toNat:Nat):Int)=x;cases hl:lT x
   ·have k:qx x=(decide ((48:Int)<=x)&&decide (x<=(57:Int))):=rfl;rw [k];cases f:decide ((48:Int)<=x)<;>cases b:decide (x<=(57:Int))<;>simp [b]
   ·have g:=Vz x hl;cases f:decide ((48:Int)<=x)<;>cases b:decide (x<=(57:Int))<;>rw [f,b] at g<;>simp [b] at g ⊢<;>(cases mm r<;>rfl)
  ·rfl
theorem VA {α:Type}{l r:List α}{i:Nat}{x:α}(h:l.drop i=x::r):l.drop (i+1)=r/\l[i]?=some x:=by
 refine⟨?_,by have:=congrArg (fun t=>t[0]?) h; simpa using this⟩;have:=congrArg (List.drop 1) h
 simpa [List.drop_drop] using this
theorem En (l:List Bs) (s n:Bs):n∈fF l s↔n∈l\/n=s:=by
 unfold fF
 split
 ·rename_i h
  exact⟨fun h1=>.inl h1,fun h1=>by rcases h1 with h1|rfl; exact h1; simpa using h⟩
 ·simp [or_comm]
theorem sy {l:List ax}{s:Bs}(h:(bQ l s).2=true):(bQ l s).1.ai=s:=by
 unfold bQ at h ⊢;cases e:l.find? (fun t=>t.ai==s) with
 | none=>rw [e] at h; cases h
 | some t=>have:=List.find?_some e; simpa using this
theorem VB {l:List ax}{s:Bs}(h:(bQ l s).2=true):s∈l.map (·.ai):=by
 have hn:=sy h;rcases sA l s with e|e
 ·unfold bQ at h e hn;cases b:l.find? (fun t=>t.ai==s) with
  | none=>rw [b] at h; cases h
  | some t=>exact List.mem_map.2 ⟨t,List.mem_of_find?_eq_some b,by have:=List.find?_some b; simpa using this⟩
 ·exact List.mem_map.2 ⟨_,e,hn⟩
theorem VC (s:Bs) (l:List ax):gU s l=(match l.find? (fun t=>t.ai==s) with|some t=>Sum.inr (t,true)|none=>Sum.inl ()):=by
 induction l with
 | nil=>rfl
 | cons a r b =>
  rw [gU,List.find?_cons];simp only [on,b];cases a.ai==s<;>rfl
theorem AN (d:aq) (s:Bs):cU d s=bQ d.aA.l s:=by
 unfold cU bQ on;rw [VC];cases d.aA.l.find? (fun t=>t.ai==s)<;>rfl
theorem VD {l:List ax}{s:Bs}(h:(bQ l s).2=false):(bQ l s).1=ax.zero:=by
 unfold bQ at h ⊢;cases e:l.find? (fun t=>t.ai==s) with
 | none=>rfl
 | some t=>rw [e] at h; cases h
theorem VE (s:Bs) (l:List Bs):∀n:Nat,(l.contains s=false->iR s l n=Sum.inl ())/\(l.contains s=true->∃m:Nat,iR s l n=Sum.inr (m:Int)):=by
 induction l with
 | nil=>intro n; exact⟨fun _=>rfl,fun h=>by simp at h⟩
 | cons a r b =>
  intro n;rw [iR];simp only [Ab.on,List.contains_cons];cases s==a
  ·simp only [Bool.false_or,cond_false]; exact b (n+1)
  ·simp only [Bool.true_or,cond_true]; exact⟨fun h=>by simp at h,fun _=>⟨n,rfl⟩⟩
theorem VF (a:Sl Bs) (s:Bs):s5 a s=a.l.contains s:=by
 unfold s5 g_;simp only [Ab.on];have h:=VE s a.l 0;cases hc:a.l.contains s
 ·rw [h.1 hc]; rfl
 ·obtain⟨m,e⟩:=h.2 hc;rw [e]; exact dT (by simp)
theorem Ky (a1:Sl Int):∀(l:List Int) (s:Nat),l.length+s=a1.l.length->lz a1 l s=some (if l=a1.l.drop s then Sum.inl () else Sum.inr false)
 | [],s,h=>by
  rw [lz,if_pos];rw [List.drop_eq_nil_of_le]; simp at h; omega
 | x::r,s,h=>by
  simp only [List.length_cons] at h;have f:s<a1.l.length:=by omega
  have b:=List.getElem?_eq_getElem f;rw [lz];simp only [Ab.on];rw [b,oB,Ky a1 r (s+1) (by omega),Q.jQ b];generalize a1.l[s]=y;generalize a1.l.drop (s+1)=t;by_cases e:x=y
  ·subst e; simp only [decide_true,Bool.not_true,cond_false,List.cons.injEq,true_and]
  ·simp [e]
theorem Kz (a b:Sl Int):qU a b=some (decide (a.l=b.l)):=by
 unfold qU;by_cases h:a.l.length=b.l.length
 ·rw [show decide ((a.l.length:Int)=(b.l.length:Int))=true from dT (by omega)];simp only [Bool.not_true,cond_false];rw [Ky b a.l 0 (by omega),List.drop_zero];by_cases e:a.l=b.l<;>simp [e,Ab.on]
 ·rw [show decide ((a.l.length:Int)=(b.l.length:Int))=false from dF (by omega)];have:a.l≠b.l:=fun e=>h (by rw [e]);simp [this]
theorem KB (a1:Sl Int):∀(l:List Int) (s:Nat),lY a1 l s=lz a1 l s
 | [],s=>rfl
 | x::r,s=>by rw [lY,lz]; simp only [Ab.on,KB a1 r]
theorem VG (a b:Sl Int):oZ a b=some (decide (a.l=b.l)):=by
 rw [<- Kz]; unfold oZ qU; rw [KB]; all_goals rfl
theorem yW (t:az):fh t=jH t.aK.l:=vQ t
theorem KC {t:az}(h:t.aK.l.length<=1048576) (h1:1<=t.aK.l.length):nG t=some ⟨t.ai,⟨false,t.aK.l.drop 1⟩⟩:=by
 unfold nG;rw [wR h1,oB,iw (by decide) (by simp; omega)];simp
theorem KD {t:az}(h:t.aK.l.length<=1048576):kf t=some ⟨t.ai,⟨false,(eW t.aK).l⟩⟩:=by
 unfold kf eW;simp only [Ab.on,yW];cases hn:jH t.aK.l
 ·simp only [cond_false];rw [iw (by decide) (by simp; omega)];simp
 ·simp only [cond_true];rw [KC h (Ko hn)]; rfl
theorem VH (s:Sl Int):(eW s).l.length<=s.l.length:=by unfold eW; cases jH s.l<;>simp
theorem KE {t:az}(h:t.aK.l.length<=1048576):pe t=some (iY (eW t.aK).l):=by
 unfold pe;rw [KD h];simp only [oB,Ab.on,iY];cases (eW t.aK).l with
 | nil=>rfl
 | cons a r=>simp; by_cases h:a=2<;>simp [h]
theorem KF {f:Bs->Option Bool}:∀{l:List Bs},(∀s∈l,∃b,f s=some b)->∃r,qn f l=some r
 | [],_=>⟨_,rfl⟩
 | s::l,h=>by
  obtain⟨b,e⟩:=h s (.head _);obtain⟨r,g⟩:=KF (l:=l) fun x i=>h x (.tail _ i);exact⟨_,by rw [qn,e,oB,g]; rfl⟩
def nW (d:aq) (a n:Bs):Bool :=
 (bQ d.aA.l n).2&&(decide ((bQ d.aA.l n).1.an=1)&&((decide ((bQ d.aA.l a).1.an=1)&&n==a)||((decide ((bQ d.aA.l a).1.an=2)&&(bQ d.aA.l n).1.bU.l.contains a)||(decide ((bQ d.aA.l a).1.an=3)&&(bQ d.aA.l a).1.bI.l.any fun y=>y.ai==n))))
def kL (d:aq) (a:Bs) (x:ax×Bool) (s:Bs):Bool:=(bQ d.aA.l s).2&&(decide ((bQ d.aA.l s).1.an=1)&&(!decide (x.1.an=2)||(bQ d.aA.l s).1.bU.l.contains a))
theorem KG (t:ax) (a:Bs):u4 t a=t.bU.l.contains a:=VF _ _
theorem KH (d:aq) (a:Bs) (x:ax×Bool) (s:Bs):qQ d a x s=some (kL d a x s):=by
 unfold qQ kL;rw [oO,oB];simp only [j8,B3,KG];cases (bQ d.aA.l s).2<;>cases decide ((bQ d.aA.l s).1.an=(1:Int))<;>cases decide (x.1.an=(2:Int))<;>cases (bQ d.aA.l s).1.bU.l.contains a<;>rfl
theorem Eo (d:aq) (h:d.aA.l.length<=1048576):∀(n:Nat) (o:Sl Bs) (s:Nat) (l:List Bs),s<=d.aA.l.length->d.aA.l.length<s+n->o.l.length+(d.aA.l.length-s)<=2097152 ->
  ∃r,mg d n o s l=some r/\∀z,z∈r.l↔z∈o.l\/z∈l/\z∈(d.aA.l.drop s).map ax.ai
 | 0,_,_,_,h1,b,_=>by omega
 | n+1,o,s,l,h1,b,j=>by
  rw [mg];by_cases g:s<d.aA.l.length
  ·rw [show decide (((s:Nat):Int)<((d.aA.l.length:Nat):Int))=true from dT (by omega),cond_true,List.getElem?_eq_getElem g,oB];unfold s6;have i:(d.aA.l.drop s).map ax.ai=d.aA.l[s].ai::(d.aA.l.drop (s+1)).map ax.ai:=by rw [List.drop_eq_getElem_cons g]; rfl
   cases hc:l.contains d.aA.l[s].ai
   ·obtain⟨r,e,hr⟩:=Eo d h n o (s+1) l (by omega) (by omega) (by omega);rw [cond_false];refine⟨r,e,fun z=>?_⟩;rw [hr z,i,List.mem_cons];have hn:d.aA.l[s].ai∉l:=by simpa using hc
    constructor
    ·rintro (h1|⟨h1,b⟩)
     ·exact .inl h1
     ·exact .inr ⟨h1,.inr b⟩
    ·rintro (h1|⟨h1,b|b⟩)
     ·exact .inl h1
     ·rw [b] at h1; exact absurd h1 hn
     ·exact .inr ⟨h1,b⟩
   ·have hm:d.aA.l[s].ai∈l:=by simpa using hc
    rw [cond_true,iw (by decide) (by simp; omega),oB];obtain⟨r,e,hr⟩:=Eo d h n ⟨_,o.l++[d.aA.l[s].ai]⟩ (s+1) (List.erase l d.aA.l[s].ai) (by omega) (by omega) (by simp; omega);refine⟨r,e,fun z=>?_⟩;rw [hr z,i,List.mem_cons];simp only [List.mem_append,List.mem_singleton];by_cases f:z=d.aA.l[s].ai
    ·subst f;exact⟨fun _=>.inr ⟨hm,.inl rfl⟩,fun _=>.inl (.inr rfl)⟩
    ·rw [List.mem_erase_of_ne f];constructor
     ·rintro ((h1|h1)|⟨h1,b⟩)
      ·exact .inl h1
      ·exact absurd h1 f
      ·exact .inr ⟨h1,.inr b⟩
     ·rintro (h1|⟨h1,b|b⟩)
      ·exact .inl (.inl h1)
      ·exact absurd b f
      ·exact .inr ⟨h1,b⟩
  ·rw [show decide (((s:Nat):Int)<((d.aA.l.length:Nat):Int))=false from dF (by omega),cond_false];refine⟨o,rfl,fun z=>?_⟩;rw [List.drop_of_length_le (by omega)];simp
theorem yX (d:aq) (h:d.aA.l.length<=1048576) (a:Bs) (x:ax×Bool) (l:List Bs):∃r,mh d a x l=some r/\∀z,z∈r.l↔z∈l/\kL d a x z=true:=by
 unfold mh;obtain⟨r,e⟩:=KF (l:=l) (f:=qQ d a x) fun s _=>⟨_,KH d a x s⟩;obtain⟨_,hr⟩:=zU e;rw [e,oB];unfold u7;obtain⟨b,g,i⟩:=Eo d h (d.aA.l.length+1) (Sl.nil:Sl Bs) 0 r (Nat.zero_le _) (by omega) (by show 0+_<=_; omega);refine⟨b,g,fun z=>?_⟩;rw [i z,List.drop_zero,hr,List.mem_filter,KH];have j:(some (kL d a x z)==some true)=kL d a x z:=by cases kL d a x z<;>rfl
 rw [j];constructor
 ·rintro (h1|⟨h1,_⟩)
  ·cases h1
  ·exact h1
 ·intro h1;refine .inr ⟨h1, ?_⟩;have hk:=h1.2;unfold kL at hk;rw [Bool.and_eq_true] at hk;exact VB hk.1
theorem Ep (d:aq) (h:d.aA.l.length<=1048576) (a:Bs) (x:ax×Bool):∀(n s:Nat) (l:List Bs),s<=d.aA.l.length->d.aA.l.length<s+n ->
  ∃r,mj d a x n s l=some r/\∀z,z∈r.l↔(z∈l\/∃y∈d.aA.l.drop s,y.bU.l.contains a=true/\y.ai=z)/\kL d a x z=true
 | 0,_,_,h1,f=>by omega
 | n+1,s,l,h1,f=>by
  rw [mj];by_cases b:s<d.aA.l.length
  ·rw [show decide (((s:Nat):Int)<((d.aA.l.length:Nat):Int))=true from dT (by omega),cond_true,List.getElem?_eq_getElem b,oB,B3,oB,KG];unfold s7;rw [List.drop_eq_getElem_cons b];cases hc:d.aA.l[s].bU.l.contains a
   ·obtain⟨r,e,hr⟩:=Ep d h a x n (s+1) l (by omega) (by omega);rw [cond_false];refine⟨r,e,fun z=>?_⟩;rw [hr z];simp only [List.mem_cons,exists_eq_or_imp,hc,Bool.false_eq_true,false_and,false_or]
   ·obtain⟨r,e,hr⟩:=Ep d h a x n (s+1) (fF l d.aA.l[s].ai) (by omega) (by omega);rw [cond_true];refine⟨r,e,fun z=>?_⟩;rw [hr z,En];simp only [List.mem_cons,exists_eq_or_imp,hc,true_and];rw [or_assoc,eq_comm (a:=z)]
  ·rw [show decide (((s:Nat):Int)<((d.aA.l.length:Nat):Int))=false from dF (by omega),cond_false];obtain⟨r,e,hr⟩:=yX d h a x l;refine⟨r,e,fun z=>?_⟩;rw [hr z,List.drop_of_length_le (by omega)];simp
theorem KI (d:aq) (h:d.aA.l.length<=1048576) (a:Bs) (x:ax×Bool):∀(n s:Nat) (l:List Bs),s<=x.1.bI.l.length->x.1.bI.l.length<s+n ->
  ∃r,pu d a x n s l=some r/\∀z,z∈r.l↔(z∈l\/∃y∈x.1.bI.l.drop s,y.ai=z)/\kL d a x z=true
 | 0,_,_,h1,f=>by omega
 | n+1,s,l,h1,f=>by
  rw [pu];by_cases b:s<x.1.bI.l.length
  ·rw [show decide (((s:Nat):Int)<((x.1.bI.l.length:Nat):Int))=true from dT (by omega),cond_true,List.getElem?_eq_getElem b,oB,List.drop_eq_getElem_cons b];obtain⟨r,e,hr⟩:=KI d h a x n (s+1) (fF l x.1.bI.l[s].ai) (by omega) (by omega);refine⟨r,e,fun z=>?_⟩;rw [hr z,En];simp only [List.mem_cons,exists_eq_or_imp];rw [or_assoc,eq_comm (a:=z)]
  ·rw [show decide (((s:Nat):Int)<((x.1.bI.l.length:Nat):Int))=false from dF (by omega),cond_false];obtain⟨r,e,hr⟩:=yX d h a x l;refine⟨r,e,fun z=>?_⟩;rw [hr z,List.drop_of_length_le (by omega)];simp
theorem VI {d:aq}(h:d.aA.l.length<=1048576) (a:Bs):∃r,qS d a=some r/\∀z,z∈r.l↔nW d a z=true:=by
 unfold qS qR;rw [oO,oB,j8];by_cases h1:(bQ d.aA.l a).1.an=1
 ·obtain⟨r,e,hr⟩:=yX d h a (bQ d.aA.l a) (fF [] a);rw [dT h1,cond_true];refine⟨r,e,fun z=>?_⟩;rw [hr z,En];unfold kL nW;rw [h1];simp;constructor
  ·rintro ⟨rfl,f,b⟩; exact⟨f,b,rfl⟩
  ·rintro ⟨f,b,rfl⟩; exact⟨rfl,f,b⟩
 ·rw [dF h1,cond_false];by_cases f:(bQ d.aA.l a).1.an=2
  ·obtain⟨r,e,hr⟩:=Ep d h a (bQ d.aA.l a) (d.aA.l.length+1) 0 [] (Nat.zero_le _) (by omega);rw [dT f,cond_true];refine⟨r,e,fun z=>?_⟩;rw [hr z];unfold kL nW;rw [f];simp;intro b g i;rcases sA d.aA.l z with j|j
   ·rw [j] at g; cases g
   ·exact⟨_,j,i,sy b⟩
  ·rw [dF f,cond_false];by_cases b:(bQ d.aA.l a).1.an=3
   ·obtain⟨r,e,hr⟩:=KI d h a (bQ d.aA.l a) ((bQ d.aA.l a).1.bI.l.length+1) 0 [] (Nat.zero_le _) (by omega);rw [dT b,cond_true];refine⟨r,e,fun z=>?_⟩;rw [hr z];unfold kL nW;rw [b];simp;constructor
    ·rintro ⟨g,i,k⟩; exact⟨i,k,g⟩
    ·rintro ⟨i,k,g⟩; exact⟨g,i,k⟩
   ·obtain⟨r,e,hr⟩:=yX d h a (bQ d.aA.l a) [];rw [dF b,cond_false];refine⟨r,e,fun z=>?_⟩;rw [hr z];unfold nW;rw [dF h1,dF f,dF b];simp
theorem KJ (n:Bs):∀l:List Bs,(match nF n l with|.inl _=>false|.inr e=>e)=l.contains n
 | []=>rfl
 | a::r=>by
  rw [nF,List.contains_cons,<- KJ n r,BEq.comm];simp only [on];cases a==n<;>rfl
theorem VJ (s:Sl Bs) (n:Bs):iT s n=s.l.contains n:=by
 rw [<- KJ];unfold iT;simp only [on];cases nF n s.l<;>rfl
theorem KK (n:Bs):∀l:List Z9,(match nH n l with|.inl _=>false|.inr e=>e)=l.any fun y=>y.ai==n
 | []=>rfl
 | a::r=>by
  rw [nH,List.any_cons,<- KK n r];simp only [on];cases a.ai==n<;>rfl
theorem VK (t:ax) (n:Bs):l5 t n=t.bI.l.any fun y=>y.ai==n:=by
 rw [<- KK];unfold l5;simp only [on];cases nH n t.bI.l<;>rfl
theorem KL (d:aq){i:Nat}(hi:i<d.aA.l.length) (hl:d.aA.l.length<=1048576):∀(n k:Nat),k<=i->i<k+n->pg d (i:Int) n (k:Int)=some (!((d.aA.l.drop k).take (i-k)).any fun y=>y.ai==d.aA.l[i].ai)
 | 0,k,h1,f=>by omega
 | n+1,k,h1,f=>by
  rw [pg];by_cases hk:k<i
  ·have b:k<d.aA.l.length:=by omega
   have g:bV d.aA.l (k:Int)=some d.aA.l[k]:=by unfold bV; rw [if_pos (by simp),Int.toNat_natCast,List.getElem?_eq_getElem b]
   have j:bV d.aA.l (i:Int)=some d.aA.l[i]:=by unfold bV; rw [if_pos (by simp),Int.toNat_natCast,List.getElem?_eq_getElem hi]
   have o:bG (k:Int) 1=some ((k+1:Nat):Int):=by rw [eH (by omega)]; rfl
   obtain⟨m,hm⟩:∃m,i-k=m+1:=⟨i-k-1,by omega⟩;rw [dT (by omega:((k:Nat):Int)<((i:Nat):Int)),cond_true,g,oB,j,oB,hm,List.drop_eq_getElem_cons b,List.take_succ_cons,List.any_cons];cases d.aA.l[k].ai==d.aA.l[i].ai
   ·rw [cond_false,o,oB,KL d hi hl n (k+1) (by omega) (by omega),show i-(k+1)=m by omega,Bool.false_or]
   ·rfl
  ·have:i-k=0:=by omega
   rw [dF (by omega:¬((k:Nat):Int)<((i:Nat):Int)),cond_false,this,List.take_zero,List.any_nil];rfl
theorem VL (d:aq){i:Nat}(hi:i<d.aA.l.length) (hl:d.aA.l.length<=1048576):sN d (i:Int)=some (!(d.aA.l.take i).any fun y=>y.ai==d.aA.l[i].ai):=by
 unfold sN uW;rw [show (0:Int)=((0:Nat):Int) from rfl,KL d hi hl F0 0 (Nat.zero_le _) (by rw [dM]; omega),List.drop_zero,Nat.sub_zero]
def mG (a:Bs) (x o:ax):Bool:=(decide (x.an=1)&&o.ai==a)||((decide (x.an=2)&&o.bU.l.contains a)||(decide (x.an=3)&&x.bI.l.any fun y=>y.ai==o.ai))
theorem Er {d:aq}(hl:d.aA.l.length<=1048576) (a:Bs) (x:ax×Bool) (p:x.2=true):∀(l:List ax) (i:Nat) (s:Sl Bs),d.aA.l.drop i=l->s.l.length+l.length<=2097152 ->
  ∃r,fw d a x l i s=some r/\∀z,z∈r.l↔z∈s.l\/∃(j:Nat) (h:j<d.aA.l.length),i<=j/\d.aA.l[j].an=1/\((d.aA.l.take j).any fun y=>y.ai==d.aA.l[j].ai)=false/\mG a x.1 d.aA.l[j]=true/\d.aA.l[j].ai=z
 | [],i,s,t,_=>by
  refine⟨s,by rw [fw],fun z=>⟨.inl, ?_⟩⟩;rintro (h|⟨j,h,h1,_⟩)
  ·exact h
  ·have:=List.drop_eq_nil_iff.1 t; omega
 | o::r,i,s,t,C=>by
  simp only [List.length_cons] at C;obtain⟨v,b⟩:=VA t;obtain⟨hi,b⟩:=List.getElem?_eq_some_iff.1 b
  -- what is left when this one does not count
  have skip:(¬(o.an=1/\((d.aA.l.take i).any fun y=>y.ai==o.ai)=false/\mG a x.1 o=true))->∃q,fw d a x r (i+1) s=some q/\∀z,z∈q.l↔z∈s.l\/∃(j:Nat) (h:j<d.aA.l.length),i<=j/\d.aA.l[j].an=1/\((d.aA.l.take j).any fun y=>y.ai==d.aA.l[j].ai)=false/\mG a x.1 d.aA.l[j]=true/\d.aA.l[j].ai=z:=fun E=>by
   obtain⟨q,e,hq⟩:=Er hl a x p r (i+1) s v (by omega);refine⟨q,e,fun z=>?_⟩;rw [hq z];constructor
   ·rintro (h|⟨j,h,h1,f⟩)
    ·exact .inl h
    ·exact .inr ⟨j,h,by omega,f⟩
   ·rintro (h|⟨j,h,h1,f,g,k,m⟩)
    ·exact .inl h
    ·by_cases u:i=j
     ·subst u;rw [b] at f g k;exact absurd ⟨f,g,k⟩ E
     ·exact .inr ⟨j,h,by omega,f,g,k,m⟩
  have more:o.an=1->((d.aA.l.take i).any fun y=>y.ai==o.ai)=false->mG a x.1 o=true->∃q,fw d a x r (i+1) ⟨s.nl&&List.isEmpty [o.ai],s.l++[o.ai]⟩=some q/\∀z,z∈q.l↔z∈s.l\/∃(j:Nat) (h:j<d.aA.l.length),i<=j/\d.aA.l[j].an=1/\((d.aA.l.take j).any fun y=>y.ai==d.aA.l[j].ai)=false/\mG a x.1 d.aA.l[j]=true/\d.aA.l[j].ai=z:=fun k1 k2 F=>by
   obtain⟨q,e,hq⟩:=Er hl a x p r (i+1) ⟨s.nl&&List.isEmpty [o.ai],s.l++[o.ai]⟩ v (by simp; omega);refine⟨q,e,fun z=>?_⟩;rw [hq z];simp only [List.mem_append,List.mem_singleton];constructor
   ·rintro ((h|h)|⟨j,h,h1,f⟩)
    ·exact .inl h
    ·exact .inr ⟨i,hi,Nat.le_refl _,by rw [b]; exact k1,by rw [b]; exact k2,by rw [b]; exact F,by rw [b]; exact h.symm⟩
    ·exact .inr ⟨j,h,by omega,f⟩
   ·rintro (h|⟨j,h,h1,f,g,k,m⟩)
    ·exact .inl (.inl h)
    ·by_cases u:i=j
     ·subst u;rw [b] at m;exact .inl (.inr m.symm)
     ·exact .inr ⟨j,h,by omega,f,g,k,m⟩
  rw [fw,p,cond_true];simp only [on];have w:=VL d hi hl;rw [b] at w;by_cases hk:o.an=1
  ·rw [dT hk,w];simp only [Bool.not_true,Bool.not_false,aN,if_true,oB,Bool.false_or];cases B:(d.aA.l.take i).any fun y=>y.ai==o.ai
   ·simp only [Bool.not_false,Bool.not_true,cond_false];have G:(((decide (x.1.an=(1:Int)))&&((o.ai==a)))||((decide (x.1.an=(2:Int)))&&(bif (!((decide (x.1.an=(1:Int)))&&((o.ai==a)))&&(decide (x.1.an=(2:Int)))) then iT o.bU a else false))||((decide (x.1.an=(3:Int)))&&(bif (!(((decide (x.1.an=(1:Int)))&&((o.ai==a)))||((decide (x.1.an=(2:Int)))&&(bif (!((decide (x.1.an=(1:Int)))&&((o.ai==a)))&&(decide (x.1.an=(2:Int)))) then iT o.bU a else false)))&&(decide (x.1.an=(3:Int)))) then l5 x.1 o.ai else false)))=mG a x.1 o:=by
     unfold mG;rw [VJ,VK];cases decide (x.1.an=(1:Int))<;>cases (o.ai==a)<;>cases decide (x.1.an=(2:Int))<;>cases decide (x.1.an=(3:Int))<;>cases o.bU.l.contains a<;>rfl
    rw [G];cases hc:mG a x.1 o
    ·rw [cond_false,oB];exact skip fun h=>by rw [hc] at h; exact absurd h.2.2 (by simp)
    ·rw [cond_true,iw (by decide) (by simp; omega),oB,oB];exact more hk B hc
   ·simp only [Bool.not_true,cond_true,Bool.not_false,oB];exact skip fun h=>by rw [B] at h; exact absurd h.2.1 (by simp)
  ·rw [dF hk];simp only [Bool.not_false,Bool.not_true,aN,Bool.false_eq_true,if_false,Bool.true_or,cond_true,oB];exact skip fun h=>hk h.1
theorem VM {l:List ax}{j:Nat}(h:j<l.length) (b:((l.take j).any fun y=>y.ai==l[j].ai)=false):bQ l l[j].ai=(l[j],true):=by
 have:l.find? (fun t=>t.ai==l[j].ai)=some l[j]:=by
  rw [List.find?_eq_some_iff_getElem];refine⟨by simp,j,h,rfl,fun k hk=>?_⟩;rw [List.any_eq_false] at b;have f:k<(l.take j).length:=by simp; omega
  have:=b (l.take j)[k] (List.getElem_mem f);rw [List.getElem_take] at this
  simpa using this
 unfold bQ;rw [this]
theorem VN {l:List ax}{z:Bs}(h:(bQ l z).2=true):∃(j:Nat) (b:j<l.length),l[j]=(bQ l z).1/\((l.take j).any fun y=>y.ai==l[j].ai)=false:=by
 have hn:=sy h;unfold bQ at h hn ⊢;cases e:l.find? (fun t=>t.ai==z) with
 | none=>rw [e] at h; cases h
 | some t =>
  rw [e] at hn;obtain⟨_,j,b,h1,f⟩:=List.find?_eq_some_iff_getElem.1 e;refine⟨j,b,h1, ?_⟩;rw [List.any_eq_false];intro y g;obtain⟨k,hk,rfl⟩:=List.getElem_of_mem g;have i:k<j:=by simp at hk; omega
  rw [List.getElem_take,h1];have hn:t.ai=z:=hn;rw [hn]
  simpa using f k i
theorem VO {d:aq}(hl:d.aA.l.length<=1048576) (a:Bs):∃r,kn d a=some r/\∀z,z∈r.l↔nW d a z=true:=by
 unfold kn;simp only [on,AN];cases f:(bQ d.aA.l a).2
 ·have h0:∀(l:List ax) (i:Nat) (s:Sl Bs),fw d a (bQ d.aA.l a) l i s=some s:=fun l i s=>by
   cases l with
   | nil=>rw [fw]
   | cons o r=>rw [fw,f]; rfl
  rw [h0];refine⟨_,rfl,fun z=>?_⟩;unfold nW;rw [VD f];simp [Sl.nil,ax.zero]
 ·obtain⟨r,e,hr⟩:=Er hl a (bQ d.aA.l a) f d.aA.l 0 (Sl.nil:Sl Bs) rfl (by show 0+_<=_; omega);rw [e];refine⟨r,rfl,fun z=>?_⟩;rw [hr z];constructor
  ·rintro (h|⟨j,h,_,g,k,m,q⟩)
   ·cases h
   ·have b:=VM h k;rw [q] at b;unfold nW;rw [b];unfold mG at m;rw [q] at m;simp only [g,decide_true,Bool.true_and];exact m
  ·intro h;unfold nW at h;simp only [Bool.and_eq_true,decide_eq_true_eq] at h;obtain⟨h1,g,k⟩:=h;obtain⟨j,b,p,t⟩:=VN h1;refine .inr ⟨j,b,Nat.zero_le _,by rw [p]; exact g,t, ?_,by rw [p]; exact sy h1⟩;unfold mG;rw [p,sy h1];exact k
def nX (a b:az):Bool:=a.ai==b.ai&&decide (a.aK.l=b.aK.l)
theorem KM (a b:az):nX a b=nX b a:=by
 unfold nX;rw [BEq.comm (a:=a.ai),decide_eq_decide.2 (eq_comm (a:=a.aK.l))]
theorem VP (a b:az):qV a b=some (nX a b):=by
 unfold qV nX;rw [Kz];cases a.ai==b.ai<;>rfl
theorem VQ (a b:az):lZ a b=some (nX b a):=by
 rw [KM];unfold lZ nX;rw [VG];cases a.ai==b.ai<;>rfl
def rp (a b:az):Prop:=a.ai=b.ai/\a.aK.l=b.aK.l
theorem VR {t:az}(h:t.aK.l.length<=1048576):∃x,kg t=some (x,iY (eW t.aK).l)/\(iY (eW t.aK).l=true->rp (yU t) x):=by
 unfold kg;rw [KE h];simp only [oB];cases hl:iY (eW t.aK).l with
 | false=>exact⟨_,rfl,fun h=>by cases h⟩
 | true =>
  have:=VH t.aK;simp only [Bool.not_true,cond_false];rw [KD h];simp only [oB];rw [KC (show (eW t.aK).l.length<=1048576 by omega) (Kt hl)];exact⟨_,rfl,fun _=>⟨rfl,rfl⟩⟩
theorem rp.pT {a b:az}(h:rp a b):(eW a.aK).l=(eW b.aK).l:=by
 unfold eW; rw [h.2]; cases jH b.aK.l<;>simp [h.2]
theorem VS (l:List ax) (s:Bs):gU s l=me s l:=by
 induction l with
 | nil=>rfl
 | cons a r b=>rw [gU,me,b]; rfl
theorem Es (d:aq) (s:Bs):cU d s=bQ d.aA.l s:=by
 rw [<- j8]; unfold cU eL; rw [VS]; all_goals rfl
theorem VT (l:List Z8) (s:Bs):lp s l=mq s l:=by
 induction l with
 | nil=>rfl
 | cons a r b=>rw [lp,mq,b]; rfl
theorem VU (t:Sl Z8) (s:Bs):iI t s=nV t.l s:=by
 rw [<- yV]; unfold iI iV; rw [VT]; all_goals rfl
theorem Et (l:List ax) (s:Bs) (h:(bQ l s).2=false):(bQ l s).1=ax.zero:=by
 unfold bQ at *;cases e:l.find? (fun t=>t.ai==s) with
 | none=>rfl
 | some t=>rw [e] at h; cases h
theorem KN (d:aq) (s:Bs):qG d s=lB d s:=by
 unfold qG lB pE;simp only [on,Es,j8];show (gJ s||_)=_;cases h:(bQ d.aA.l s).2 with
 | true=>cases gJ s<;>simp
 | false=>rw [Et _ _ h]; cases gJ s<;>simp [ax.zero]
theorem VV (d:aq) (s:Bs):iJ d s=jE d s:=by
 unfold iJ jE pE;simp only [on,Es,j8,KN];cases h:(bQ d.aA.l s).2 with
 | true=>cases lB d s<;>simp
 | false=>rw [Et _ _ h]; cases lB d s<;>simp [ax.zero]
theorem KO {d:aq}{s:Bs}(h:jE d s=true) (f:gJ s=false):(bQ d.aA.l s).1.an=4\/(bQ d.aA.l s).1.an=5:=by
 unfold jE lB pE on at h;simp only [f,j8,Bool.not_false,cond_true,Bool.false_or] at h;by_cases b:(bQ d.aA.l s).1.an=4
 ·exact .inl b
 ·simp [b] at h; exact .inr h
def bB:Nat:=549755813888
def Rl:Nat->aa->aa->Prop
 | 0,_,_=>False
 | n+1,v,w=>v.an=w.an/\(v.aV=w.aV /\ -9223372036854775808<=v.aV/\v.aV<=9223372036854775807)/\v.aR=w.aR/\v.aF.l=w.aF.l/\(v.aF.nl=true->v.aF.l=[])/\v.aF.l.length<=bB/\v.av.l.length<=bB /\
  (v.an=3\/v.an=4->v.aV=0/\v.av.l=[]/\v.aF.l=[])/\aW (Rl n) v.av.l w.av.l
theorem Rl.mono:∀{n m:Nat}{v w:aa},n<=m->Rl n v w->Rl m v w
 | 0,_,_,_,_,h=>h.elim
 | n+1,0,_,_,hn,_=>by omega
 | n+1,m+1,v,w,hn,⟨a,b,c,d,e,f,g,i,k⟩=>⟨a,b,c,d,e,f,g,i,k.imp fun _ _ h=>Rl.mono (by omega) h⟩
theorem iZ {α:Type}{s r:Sl α}(h:s.l.length+r.l.length<=1099511627776):aZ 80 s r=some ⟨s.nl&&r.l.isEmpty,s.l++r.l⟩:=by
 unfold aZ; rw [if_pos];have:(s.l.length+r.l.length)*80<=1099511627776*80:=Nat.mul_le_mul_right _ h;unfold cL; omega
theorem KP {s:Sl Bs}(h:s.nl=true->s.l=[]) (hl:s.l.length<=bB):∃r,tc s=some r/\r.l=s.l/\(r.nl=true->r.l=[]):=by
 unfold tc;unfold bB at hl;cases hn:s.nl with
 | true=>exact⟨Sl.nil,rfl,(h hn).symm,fun _=>rfl⟩
 | false=>rw [cond_false,uC (by omega) (by simp; omega)]; exact⟨_,rfl,by simp,fun e=>by simp at e⟩
theorem Eu:∀(n:Nat){v w:aa},Rl n v w->∀m,2*n<=m->∃r,iW m v=some r/\Rl n r w
 | 0,_,_,h,_,_=>h.elim
 | n+1,v,w,⟨h1,z,B,C,E,u,x,F,j⟩,m,hm=>by
  obtain⟨m1,rfl⟩:∃m1,m=m1+1+1:=⟨m-2,by omega⟩;have hl:∀(l l':List aa) (acc g:List aa) (s:Sl aa),aW (Rl n) l l'->aW (Rl n) acc g->s.l=acc->s.l.length+l.length<=bB->∃f:Sl aa,mr (iW m1) l s=some f/\aW (Rl n) f.l (g++l'):=by
   intro l l' acc g s hl;induction hl generalizing acc g s with
   | nil=>intro o e _; exact⟨s,rfl,by rw [e]; simpa using o⟩
   | @cons a b t O G ht H =>
    intro o e y;obtain⟨r,hr,I⟩:=Eu n G m1 (by omega);rw [mr];simp only [Ab.on,hr,oB];simp only [List.length_cons] at y;rw [iZ (by unfold bB at y; simp; omega),oB];obtain⟨f,p,i⟩:=H (acc++[r]) (g++[b]) ⟨s.nl&&[r].isEmpty,s.l++[r]⟩ (o.append (.cons I .nil)) (by simp [e]) (by simp; omega);exact⟨f,p,by simpa using i⟩
  obtain⟨f,p,i⟩:=hl v.av.l w.av.l [] [] Sl.nil j .nil rfl (by simpa [Sl.nil] using x);obtain⟨k,J,q,K⟩:=KP E u;rw [iW,td,p,oB];simp only [Ab.on,oB,J];have hlen:=i.length;simp only [List.nil_append] at i hlen;refine⟨_,rfl,h1,z,B, ?_,K, ?_, ?_,fun hk=>?_,i⟩
  ·show k.l=_; rw [q]; exact C
  ·show k.l.length<=_; rw [q]; exact u
  ·show f.l.length<=_; rw [hlen,<- j.length]; exact x
  ·obtain⟨L,M,N⟩:=F hk;have:f.l=[]:=List.eq_nil_of_length_eq_zero (by rw [hlen,<- j.length,M]; rfl);exact⟨L,this,by show k.l=[]; rw [q]; exact N⟩
theorem KQ:∀(n:Nat){v w:aa},Rl n v w->∀m,2*n<=m->∃r,iU m w=some r/\Rl n v r
 | 0,_,_,h,_,_=>h.elim
 | n+1,v,w,⟨h1,y,z,o,B,p,q,C,u⟩,m,hm=>by
  obtain⟨m1,rfl⟩:∃m1,m=m1+1+1:=⟨m-2,by omega⟩;have hl:∀(l l':List aa) (acc f:List aa) (s:Sl aa),aW (Rl n) l l'->aW (Rl n) acc f->s.l=f->s.l.length+l'.length<=bB->∃g:Sl aa,l8 (iU m1) l' s=some g/\aW (Rl n) (acc++l) g.l:=by
   intro l l' acc f s hl;induction hl generalizing acc f s with
   | nil=>intro j e _; exact⟨s,rfl,by rw [e]; simpa using j⟩
   | @cons a b t H E ht F =>
    intro j e x;obtain⟨r,hr,G⟩:=KQ n E m1 (by omega);rw [l8];simp only [Ab.on,hr,oB];simp only [List.length_cons] at x;rw [iZ (by unfold bB at x; simp; omega),oB];obtain⟨g,k,i⟩:=F (acc++[a]) (f++[r]) ⟨s.nl&&[r].isEmpty,s.l++[r]⟩ (j.append (.cons G .nil)) (by simp [e]) (by simp; omega);exact⟨g,k,by simpa using i⟩
  obtain⟨g,k,i⟩:=hl v.av.l w.av.l [] [] Sl.nil u .nil rfl (by rw [<- u.length]; simpa [Sl.nil] using q);rw [iU,sS,k,oB];simp only [Ab.on,oB];rw [uC (by omega) (by rw [<- o]; unfold bB at p; simp; omega),oB];simp only [List.nil_append] at i;exact⟨_,rfl,h1,y,z,(show v.aF.l=[]++w.aF.l by simpa using o),B,p,q,C,i⟩
theorem KR (d:aq) (va:aa) (li:Bool) (n f:Int) (hn:0<=n/\n<=4096) :
  (∃e c' k',e≠0/\kH ⟨d,va,li,n⟩ f=some (e,c')/\kz ⟨d,va,li,n,0⟩ f=some k'/\k'.cQ=e) \/
  (f<=24/\n+1<=4096/\kH ⟨d,va,li,n⟩ f=some (0,⟨d,va,li,n+1⟩)/\kz ⟨d,va,li,n,0⟩ f=some ⟨d,va,li,n+1,0⟩):=by
 have g:bG n (1:Int)=some (n+1):=eH (by omega);unfold kH kz eV;simp only [Ab.on,g,oB];by_cases h1:(24:Int)<f
 ·left
  simp only [h1,decide_true,cond_true,g,oB];by_cases b:(4096:Int)<n+1
  ·exact⟨5,_,_,by omega,rfl,by simp [b]; rfl,rfl⟩
  ·exact⟨5,_,_,by omega,rfl,by simp [b]; rfl,rfl⟩
 ·simp only [h1,decide_false,cond_false,g,oB];by_cases b:(4096:Int)<n+1
  ·left
   exact⟨4,_,_,by omega,by simp [b]; rfl,by simp [b]; rfl,rfl⟩
  ·right
   exact⟨by omega,by omega,by simp [b],by simp [b]⟩
def VX (n:Nat) (d:aq) (va:aa) (li:Bool) (v:aa) (p:Option (Int×Z0)) (q:Option (aa×Z4)):Prop :=
 (∃e c' x k',e≠0/\p=some (e,c')/\q=some (x,k')/\k'.cQ=e)\/(∃m x,0<=m/\m<=4096/\p=some (0,⟨d,va,li,m⟩)/\q=some (x,⟨d,va,li,m,0⟩)/\Rl n v x)
theorem KS (a2:Int) (k:Z4->aa->Int->Option (aa×Z4)) (l:List aa) (w:Z4) (x:aa) (h:w.cQ≠0):kA a2 k l w x=some (w,x):=by
 cases l with
 | nil=>rfl
 | cons a t=>rw [kA]; simp [h]
theorem KT:∀(n:Nat){v w:aa},Rl n v w->∀(m:Nat) (d:aq) (va:aa) (li:Bool) (c f:Int),n<=m->0<=c/\c<=4096->0<=f/\f<=1099511627776 ->
  VX n d va li v (iM m ⟨d,va,li,c⟩ v f) (kB m ⟨d,va,li,c,0⟩ w f)
 | 0,_,_,h,_,_,_,_,_,_,_,_,_=>h.elim
 | n+1,v,w,⟨h1,G,N,H,O,I,J,P,K⟩,m,d,va,li,c,f,hm,hc,hl=>by
  obtain⟨m,rfl⟩:∃m1,m=m1+1:=⟨m-1,by omega⟩;rw [iM,kB];have hk:aZ 16 ((aa.mk w.an w.aV w.aR true ([]) (Sl.nil:Sl Bs)).aF) w.aF=some ⟨true&&w.aF.l.isEmpty,[]++w.aF.l⟩:=by
   rw [uC (by omega) (by show ([]:List Bs).length+_<=_; rw [<- H]; unfold bB at I; simp; omega)]; rfl
  rcases KR d va li c f hc with ⟨e,c',k',he,r,k,L⟩|⟨Y,M,r,k⟩
  ·left
   rw [r,k,oB,oB,hk,oB,KS _ _ _ _ _ (by rw [L]; exact he)];exact⟨e,c',_,k',he,by simp [he],rfl,L⟩
  ·rw [r,k,oB,oB,hk,oB];have Q:∀(l l':List aa) (acc p:List aa) (x:aa) (c:Int),aW (Rl n) l l'->aW (Rl n) acc p->x.av.l=p->x.av.l.length+l'.length<=bB->0<=c/\c<=4096 ->
     (∃e c' k' x',e≠0/\lC f (iM m) l ⟨d,va,li,c⟩=some (Sum.inr (e,c'))/\kA f (kB m) l' ⟨d,va,li,c,0⟩ x=some (k',x')/\k'.cQ=e) \/
     (∃c' x',0<=c'/\c'<=4096/\lC f (iM m) l ⟨d,va,li,c⟩=some (Sum.inl ⟨d,va,li,c'⟩)/\kA f (kB m) l' ⟨d,va,li,c,0⟩ x=some (⟨d,va,li,c',0⟩,x') /\
      x'.an=x.an/\x'.aV=x.aV/\x'.aR=x.aR/\x'.aF=x.aF/\aW (Rl n) (acc++l) x'.av.l):=by
    intro l l' acc p x c R;induction R generalizing acc p x c with
    | nil=>intro s e q hc; right; exact⟨c,x,hc.1,hc.2,rfl,rfl,rfl,rfl,rfl,rfl,by rw [e]; simpa using s⟩
    | @cons a b t Z S ht U =>
     intro s e q hc;simp only [List.length_cons] at q;rw [lC,kA];simp only [Ab.on,eH (show -9223372036854775808<=f+1/\f+1<=9223372036854775807 by omega),oB,decide_true,cond_true];rcases KT n S m d va li c (f+1) (by omega) hc (by omega) with ⟨W,c',y,k',he,g,i,j⟩|⟨c',y,X,M,g,i,j⟩
     ·left
      rw [g,i,oB,oB,iZ (by unfold bB at q; simp; omega),oB,KS _ _ _ _ _ (by rw [j]; exact he)];exact⟨W,c',k',_,he,by simp [he],rfl,j⟩
     ·rw [g,i,oB,oB,iZ (by unfold bB at q; simp; omega),oB];have:=U (acc++[a]) (p++[y]) (aa.mk x.an x.aV x.aR (x.av.nl&&[y].isEmpty) (x.av.l++[y]) x.aF) c' (s.append (.cons j .nil)) (by show x.av.l++[y]=_; rw [e]) (by show (x.av.l++[y]).length+_<=_; simp; omega) ⟨X,M⟩;simp only [decide_true,Bool.not_true,cond_false]
      rcases this with ⟨k,c2,k2,u,g0,g1,g2,g3⟩|⟨c2,u,g1,g2,g3,g4,z,B,C,E,F⟩
      ·exact .inl ⟨k,c2,k2,u,g0,g1,g2,g3⟩
      ·exact .inr ⟨c2,u,g1,g2,g3,g4,z,B,C,E,by simpa using F⟩
   rcases Q v.av.l w.av.l [] [] (aa.mk w.an w.aV w.aR true [] ⟨true&&w.aF.l.isEmpty,[]++w.aF.l⟩) (c+1) K .nil rfl (by show ([]:List aa).length+_<=_; rw [<- K.length]; simpa using J) (by omega) with
    ⟨e,c',k',x',he,g,i,j⟩|⟨c',x',g1,g2,g,i,z,B,C,E,F⟩
   ·left
    refine⟨e,c',x',k',he, ?_, ?_,j⟩
    ·simp only [decide_true,Bool.not_true,cond_false,g,oB]
    ·exact(congrArg (fun o=>Option.bind o _) i)
   ·right
    refine⟨c',x',g1,g2, ?_, ?_,by rw [z]; exact h1,⟨by rw [B]; exact G.1,G.2⟩,by rw [C]; exact N,by rw [E]; show _=[]++w.aF.l; simpa using H,O,I,J,P,by simpa using F⟩
    ·simp only [decide_true,Bool.not_true,cond_false,g,oB,Ab.on]
    ·exact(congrArg (fun o=>Option.bind o _) i)
def zv:aa:=aa.mk (0:Int) (0:Int) ([]:Bs) true ([]) (Sl.nil:Sl Bs)
theorem yY:Rl 1 zv zv:=⟨rfl,⟨rfl,by decide,by decide⟩,rfl,rfl,fun _=>rfl,by show 0<=_; omega,by show 0<=_; omega,fun _=>⟨rfl,rfl,rfl⟩,.nil⟩
theorem Ev {n:Nat}{v w:aa}(h:Rl (n+1) v w) (hn:n<=1099511627776) (s:Bs):∃x y b,iE v s=some (x,b)/\jC w s=some (y,b)/\((b=true/\Rl n x y)\/(b=false/\x=zv/\y=zv)):=by
 obtain⟨h1,M,N,t,O,P,Q,R,m⟩:=h;have hk:∀(l:List Bs) (i:Nat),(∃j:Nat,iR s l i=Sum.inr (j:Int)/\∀w:aa,jB w s l i=(bif decide (((w.av.l.length:Nat):Int)<=((j:Nat):Int)) then some (Sum.inr (zv,false)) else((w.av.l[j]?).bind fun u=>(uY u).bind fun z=>some (Sum.inr (z,true))))) \/
   (iR s l i=Sum.inl ()/\∀w:aa,jB w s l i=some (Sum.inl ())):=by
  intro l;induction l with
  | nil=>intro i; exact .inr ⟨rfl,fun _=>rfl⟩
  | cons a r B =>
   intro i;rw [iR];simp only [Ab.on];cases e:(s==a) with
   | true=>exact .inl ⟨i,rfl,fun w=>by rw [jB]; simp only [Ab.on,show (a==s)=true by rw [Bool.beq_comm]; exact e,cond_true]; rfl⟩
   | false =>
    have o:(a==s)=false:=by rw [Bool.beq_comm]; exact e
    rcases B (i+1) with ⟨j,f,g⟩|⟨f,g⟩
    ·exact .inl ⟨j,f,fun w=>by rw [jB]; simp only [Ab.on,o,cond_false]; exact g w⟩
    ·exact .inr ⟨f,fun w=>by rw [jB]; simp only [Ab.on,o,cond_false]; exact g w⟩
 have p:∀i:Int,g_ v.aF s=i->iE v s=(if v.an=6/\0<=i/\i<v.av.l.length then((bV v.av.l i).bind fun C=>(q6 C).bind fun E=>some (E,true)) else some (zv,false)):=by
  intro i hi;unfold iE;rw [hi];by_cases f:v.an=6<;>by_cases g:i<0<;>by_cases F:(v.av.l.length:Int)<=i<;>simp [Ab.on,f,g,F,zv]<;>try omega
  all_goals (rw [if_pos (by omega)])
 unfold jC;rw [<- h1,<- t];rcases hk v.aF.l 0 with ⟨j,f,g⟩|⟨f,g⟩
 ·have hi:g_ v.aF s=(j:Int):=by unfold g_; rw [f]; rfl
  rw [p _ hi,g w,<- m.length];by_cases k:v.an=6
  ·simp only [k,decide_true,Bool.not_true,cond_false,true_and];by_cases q:j<v.av.l.length
   ·obtain⟨y,G,hr⟩:=m.get (List.getElem?_eq_getElem q);obtain⟨x',H,I⟩:=Eu n hr F0 (by rw [dM]; omega);obtain⟨J,K,L⟩:=KQ n I F0 (by rw [dM]; omega);have hq:decide (((v.av.l.length:Nat):Int)<=(j:Int))=false:=dF (by omega);refine⟨x',J,true, ?_, ?_,.inl ⟨rfl,L⟩⟩
    ·rw [if_pos (by omega)];unfold bV; rw [if_pos (by omega)];rw [show ((j:Int).toNat)=j by omega,List.getElem?_eq_getElem q,oB];unfold q6; rw [H]; rfl
    ·rw [hq,cond_false,G,oB]; unfold uY; rw [K]; rfl
   ·have hq:decide (((v.av.l.length:Nat):Int)<=(j:Int))=true:=dT (by omega);refine⟨zv,zv,false,by rw [if_neg (by omega)], ?_,.inr ⟨rfl,rfl,rfl⟩⟩;rw [hq]; rfl
  ·refine⟨zv,zv,false,by rw [if_neg (fun h=>k h.1)], ?_,.inr ⟨rfl,rfl,rfl⟩⟩;simp only [k,decide_false,Bool.not_false,cond_true]; rfl
 ·have hi:g_ v.aF s = -1:=by unfold g_; rw [f]; rfl
  rw [p _ hi,g w];refine⟨zv,zv,false,by rw [if_neg (by omega)], ?_,.inr ⟨rfl,rfl,rfl⟩⟩;cases decide (v.an=6)<;>rfl
theorem VY {n:Nat}{va:aa}(h:Rl (n+1) va va) (hn:n<=1099511627776) (d:aq) (li:Bool) (c:Int){m:Nat}{v w:aa}(hv:Rl m v w) :
  ∃b,mv ⟨d,va,li,c⟩ v=some b/\kw ⟨d,va,li,c,0⟩ w=some b:=by
 cases m with
 | zero=>exact hv.elim
 | succ m =>
  obtain⟨h1,_,f,_⟩:=hv;unfold mv kw;simp only;rw [<- h1,<- f];obtain⟨x,y,b,g,i,_⟩:=Ev h hn v.aR;rw [g,i];cases li<;>cases hk:decide (v.an=7)<;>exact⟨_,rfl,rfl⟩
theorem VZ {n:Nat}(h:n<256):IntKind.wrap .u8 (n:Int)=(n:Int):=by
 have:(n:Int) % 256=n:=by omega
 simp [IntKind.wrap,IntKind.bits,IntKind.signed]; omega
theorem KU (k:Nat):gu (⟨false,[((48+k:Nat):Int)]⟩:Sl Int)=[UInt8.ofNat (48+k)]:=by
 show [UInt8.ofNat ((48+k:Nat):Int).toNat]=_;rw [Int.toNat_natCast]
theorem V0:∀(f u:Nat),u<10 ^ f->(Lib.decDigits u).length<=f+1:=by
 intro f;induction f with
 | zero =>
  intro u hu;have:u=0:=by simpa using hu
  subst this; rw [Lib.decDigits]; simp
 | succ f b =>
  intro u hu;rw [Lib.decDigits]
  split
  ·simp
  ·have:=b (u / 10) (by rw [Nat.pow_succ] at hu; omega);simp; omega
theorem yZ {u:Nat}(h:u<=9223372036854775808):(Lib.decDigits u).length<=21:=V0 20 u (by omega)
theorem KV {n:Int}(h0 : -9223372036854775808<=n) (h1:n<=9223372036854775807):(Lib.itoa n).length<=22:=by
 unfold Lib.itoa
 split
 ·have:=yZ (u:=n.natAbs) (by omega); simp; omega
 ·have:=yZ (u:=n.toNat) (by omega); omega
theorem V1:∀(f u:Nat),u<10 ^ f->u<=9223372036854775808->f<=30->∀m,f+1<=m->nK m (-(u:Int))=some (Lib.decDigits u):=by
 intro f;induction f with
 | zero =>
  intro u hu g i m hm;have:u=0:=by simpa using hu
  subst this;obtain⟨m,rfl⟩:∃k,m=k+1:=⟨m-1,by omega⟩;rw [Lib.decDigits]; rfl
 | succ f j =>
  intro u hu g i m hm;obtain⟨m,rfl⟩:∃k,m=k+1:=⟨m-1,by omega⟩;have h1:Int.tmod (-(u:Int)) 10 = -((u % 10:Nat):Int):=by rw [Int.neg_tmod]; rfl
  have l:Int.tdiv (-(u:Int)) 10 = -((u / 10:Nat):Int):=by rw [Int.neg_tdiv]; rfl
  rw [nK,h1,l,Gv (by omega),oB];have o:(48:Int) - -((u % 10:Nat):Int)=((48+u % 10:Nat):Int):=by omega
  rw [o,VZ (by omega),Lib.decDigits];by_cases b:u<10
  ·rw [dif_pos b,show decide ((-10:Int) < -(u:Int))=true from dT (by omega),cond_true,Nat.mod_eq_of_lt b,KU]
  ·rw [dif_neg b,show decide ((-10:Int) < -(u:Int))=false from dF (by omega),cond_false,IntWalk.i64_in _ (by omega),j (u / 10) (by rw [Nat.pow_succ] at hu; omega) (by omega) (by omega) m (by omega),oB];have hl:=yZ (u:=u / 10) (by omega);rw [KU,fG (by simp; omega),oB]
theorem KW {n:Int}(h0 : -9223372036854775808<=n) (h1:n<=9223372036854775807):qK n=some (Lib.itoa n):=by
 unfold qK xH;have b:∀u:Nat,u<=9223372036854775808->nK F0 (-(u:Int))=some (Lib.decDigits u):=fun u hu=>V1 20 u (by omega) hu (by omega) F0 (by rw [dM]; omega);by_cases hn:n<0
 ·obtain⟨u,rfl⟩:∃u:Nat,n = -(u:Int):=⟨n.natAbs,by omega⟩;rw [show decide (-(u:Int)<0)=true from dT hn,cond_true,b u (by omega),oB];have hl:=yZ (u:=u) (by omega);rw [fG (by simp; omega),oB];unfold Lib.itoa; rw [if_pos hn,show (-(u:Int)).natAbs=u by omega]; rfl
 ·obtain⟨u,rfl⟩:∃u:Nat,n=(u:Int):=⟨n.natAbs,by omega⟩;rw [show decide ((u:Int)<0)=false from dF hn,cond_false,IntWalk.i64_in _ (by omega),show (0:Int)-(u:Int) = -(u:Int) by omega,b u (by omega),oB];unfold Lib.itoa; rw [if_neg hn,Int.toNat_natCast]
theorem V2 {n:Int}(h0 : -9223372036854775808<=n) (h1:n<=9223372036854775807):nR n=some (Lib.itoa n):=by
 unfold nR yb tg;rw [if_pos ⟨h0,h1,by have:=KV h0 h1; unfold eF; omega⟩]; rfl
def vR (s:Bs):aa:=aa.mk (3:Int) (0:Int) s true ([]) (Sl.nil:Sl Bs)
theorem V3 (s:Bs):Rl 1 (vR s) (vR s):=⟨rfl,⟨rfl,by show _<=(0:Int); decide,by show (0:Int)<=_; decide⟩,rfl,rfl,fun _=>rfl,by show 0<=_; omega,by show 0<=_; omega,fun _=>⟨rfl,rfl,rfl⟩,.nil⟩
def y5 (n:Nat) (d:aq) (va:aa) (li:Bool) (c:Int) (p:Option (aa×Int)) (q:Option (aa×Z4)):Prop :=
 (∃x y k',p=some (x,23)/\q=some (y,k')/\k'.cQ=23)\/(∃x y,p=some (x,0)/\q=some (y,⟨d,va,li,c,0⟩)/\Rl n x y)
theorem tY (d:aq) (va:aa) (li:Bool) (c e:Int):eV ⟨d,va,li,c,0⟩ e=⟨d,va,li,c,e⟩:=rfl
theorem V4 {n:Nat}{v w:aa}(h:Rl (n+1) v w) (d:aq) (va:aa) (li:Bool) (c:Int) (s:Bs) (l:gJ s=true) :
  y5 (n+1) d va li c (kI ⟨d,va,li,c⟩ s v) (jD ⟨d,va,li,c,0⟩ s w):=by
 obtain⟨h1,k,t,_⟩:=id h;have m:qK v.aV=some (Lib.itoa v.aV):=KW k.2.1 k.2.2;have o:nR v.aV=some (Lib.itoa v.aV):=V2 k.2.1 k.2.2;have p:th (Lib.itoa v.aV)=vR (Lib.itoa v.aV):=rfl;have q:Rl (n+1) (vR (Lib.itoa v.aV)) (vR (Lib.itoa v.aV)):=(V3 _).mono (by omega);unfold kI jD;rw [<- h1,<- k.1];simp only [Ab.on,tY,m,o,p,oB]
 unfold gJ at l;cases b:(s==([73,110,116]:Bs))
 ·cases f:(s==([83,116,114,105,110,103]:Bs))
  ·cases g:(s==([66,111,111,108,101,97,110]:Bs))
   ·cases i:(s==([73,68]:Bs))
    ·rw [b,f,g,i] at l; cases l
    ·by_cases k2:v.an=2
     ·simp only [k2,decide_true,cond_true,cond_false,Bool.false_and,Bool.and_true,Bool.true_and,oB];exact .inr ⟨_,_,rfl,rfl,q⟩
     ·by_cases j:v.an=3
      ·simp [j];exact .inr ⟨_,_,rfl,rfl,h⟩
      ·simp [k2,j];exact .inl ⟨_,_,_,rfl,rfl,rfl⟩
   ·by_cases k1:v.an=1
    ·simp [k1];exact .inr ⟨_,_,rfl,rfl,h⟩
    ·simp [k1];have i:(s==([73,68]:Bs))=false:=by
      rw [beq_iff_eq] at g; rw [g]; rfl
     simp [i];exact .inl ⟨_,_,_,rfl,rfl,rfl⟩
  ·have g:(s==([66,111,111,108,101,97,110]:Bs))=false:=by rw [beq_iff_eq] at f; rw [f]; rfl
   have i:(s==([73,68]:Bs))=false:=by rw [beq_iff_eq] at f; rw [f]; rfl
   by_cases j:v.an=3
   ·simp [j];exact .inr ⟨_,_,rfl,rfl,h⟩
   ·simp [j,g,i];exact .inl ⟨_,_,_,rfl,rfl,rfl⟩
 ·have f:(s==([83,116,114,105,110,103]:Bs))=false:=by rw [beq_iff_eq] at b; rw [b]; rfl
  have g:(s==([66,111,111,108,101,97,110]:Bs))=false:=by rw [beq_iff_eq] at b; rw [b]; rfl
  have i:(s==([73,68]:Bs))=false:=by rw [beq_iff_eq] at b; rw [b]; rfl
  by_cases k2:v.an=2<;>by_cases j:(-2147483648:Int)<=v.aV<;>by_cases r:v.aV<(2147483648:Int)<;>simp [k2,j,r,f,g,i];all_goals first
   | exact .inr ⟨_,_,rfl,rfl,h⟩
   | exact .inl ⟨_,_,_,rfl,rfl,rfl⟩
theorem contains_eq (b:Sl Z9) (p:Z9->Bool):vk b p=b.l.any p:=by
 have aux:∀(l:List Z9) (i:Nat),(l.any p=true->∃j:Nat,pG p l i=Sum.inr (j:Int))/\(l.any p=false->pG p l i=Sum.inl ()):=by
  intro l;induction l with
  | nil=>intro i; exact⟨fun h=>(by cases h),fun _=>rfl⟩
  | cons a r f =>
   intro i;rw [pG,List.any_cons];simp only [Ab.on];cases p a with
   | true=>exact⟨fun _=>⟨i,rfl⟩,fun h=>(by cases h)⟩
   | false=>simpa using f (i+1)
 unfold vk yd;simp only [Ab.on];cases h:b.l.any p with
 | true=>obtain⟨j,e⟩:=(aux b.l 0).1 h; rw [e]; exact dT (by show (0:Int)<=(j:Int); omega)
 | false=>rw [(aux b.l 0).2 h]; rfl
theorem V5 (w:Z4) (x:aa) (l:List Z9):lu w x l=(if l.any (fun m=>m.ai==x.aR) then Sum.inr (aa.mk (4:Int) (0:Int) x.aR true ([]) (Sl.nil:Sl Bs),w) else Sum.inl ()):=by
 induction l with
 | nil=>rfl
 | cons a r b =>
  rw [lu,List.any_cons];simp only [Ab.on];cases a.ai==x.aR with
  | true=>rfl
  | false=>simpa using b
theorem V6 {s:Bs}(b:gJ s=false):(s==([73,110,116]:Bs))=false/\(s==([83,116,114,105,110,103]:Bs))=false/\(s==([66,111,111,108,101,97,110]:Bs))=false/\(s==([73,68]:Bs))=false:=by
 unfold gJ at b;simp only [Bool.or_eq_false_iff] at b;exact⟨b.1.1.1,b.1.1.2,b.1.2,b.2⟩
theorem V7 {n:Nat}{v w:aa}(h:Rl (n+1) v w) (d:aq) (va:aa) (li:Bool) (c:Int) (s:Bs) (k:gJ s=false) :
  y5 (n+1) d va li c (kI ⟨d,va,li,c⟩ s v) (some (kC ⟨d,va,li,c,0⟩ (bQ d.aA.l s).1 w)):=by
 obtain⟨o,p,q,r⟩:=V6 k;obtain⟨h1,t,u,F,y,z,B,C,G⟩:=id h;unfold kI kC vl;rw [<- h1];simp only [o,p,q,r,Ab.on,tY,cond_false,j8,contains_eq,V5,<- u];have j:∀x:aa,x.an=4->x.aV=v.aV->x.aR=v.aR->x.av.l=v.av.l->x.aF=v.aF->(v.an=3\/v.an=4)->Rl (n+1) x (aa.mk (4:Int) (0:Int) v.aR true ([]) (Sl.nil:Sl Bs)):=by
  intro x a b c' i e hk;obtain⟨g1,g2,g3⟩:=C hk;refine⟨a,⟨by rw [b,g1]; rfl,by rw [b]; exact t.2⟩,c', ?_, ?_, ?_, ?_,fun _=>⟨by rw [b,g1],by rw [i,g2],by rw [e,g3]⟩, ?_⟩
  ·rw [e,g3]; rfl
  ·rw [e]; exact y
  ·rw [e]; exact z
  ·rw [i]; exact B
  ·rw [i,g2]; exact .nil
 by_cases f:v.an=4
 ·simp only [f,decide_true,show decide ((4:Int)=3)=false from rfl,Bool.false_and,cond_false,cond_true,Bool.true_and,Bool.true_or];cases E:(bQ d.aA.l s).1.bI.l.any (fun m=>m.ai==v.aR) with
  | true=>exact .inr ⟨_,_,rfl,rfl,j v f rfl rfl rfl rfl (.inr f)⟩
  | false=>exact .inl ⟨_,_,_,rfl,rfl,rfl⟩
 ·by_cases g:v.an=3
  ·cases li with
   | true =>
    simp only [g,decide_true,show decide ((3:Int)=4)=false from rfl,Bool.not_true,Bool.and_false,cond_false,Bool.false_and,Bool.false_or,Bool.not_false,cond_true];exact .inl ⟨_,_,_,rfl,rfl,rfl⟩
   | false =>
    simp only [g,decide_true,Bool.not_false,Bool.and_true,cond_true,Bool.or_true];have hk:(aa.mk (4:Int) v.aV v.aR v.av.nl v.av.l v.aF).an=4:=rfl;have ht:(aa.mk (4:Int) v.aV v.aR v.av.nl v.av.l v.aF).aR=v.aR:=rfl;simp only [hk,ht,decide_true,cond_true,Bool.true_and];cases E:(bQ d.aA.l s).1.bI.l.any (fun m=>m.ai==v.aR) with
    | true=>exact .inr ⟨_,_,rfl,rfl,j _ rfl rfl rfl rfl rfl (.inl g)⟩
    | false=>exact .inl ⟨_,_,_,rfl,rfl,rfl⟩
  ·simp only [g,f,decide_false,Bool.false_and,cond_false,Bool.not_false,cond_true,Bool.or_false];exact .inl ⟨_,_,_,rfl,rfl,rfl⟩
def y7 (n:Nat) (a1:az) (a3:Int) (l:Z0) (f:aa):Option (aa×Int×Z0) :=
 (kH l a3).bind fun b=>bif (!decide (b.1=(0:Int))) then(some (zv,b.1,b.2)) else(bif (decide (f.an=(0:Int))) then(bif gq a1 then(some (zv,(23:Int),b.2)) else(some (zv,(0:Int),b.2))) else((pF a1).bind fun j=>bif j.2 then(((lD n) b.2 j.1 f a3).bind fun g=>some (g.1,g.2.1,g.2.2)) else(bif (((eL b.2.Fd a1.ai).2&&(!(bif (eL b.2.Fd a1.ai).2 then gJ a1.ai else false)))&&(decide ((eL b.2.Fd a1.ai).1.an=(5:Int)))) then(((lE n) b.2 (eL b.2.Fd a1.ai).1 f a3).bind fun i=>some (i.1,i.2.1,i.2.2)) else((kI b.2 a1.ai f).bind fun k=>some (k.1,k.2,b.2)))))
theorem V8 (n:Nat) (a0:Z0) (a1:az) (a2:aa) (a3:Int):dO (n+1) a0 a1 a2 a3 =
  bif (!jE a0.Fd a1.ai) then(some (zv,(10:Int),a0)) else(bif ((decide (a2.an=(7:Int)))&&a0.gY) then((iE a0.dD a2.aR).bind fun b=>bif (!decide (b.1.an=(0:Int))) then((tf a0 b.1 a3).bind fun f=>bif (!decide (f.1=(0:Int))) then(some (zv,f.1,f.2)) else(some (b.1,(0:Int),f.2))) else(y7 n a1 a3 a0 b.1)) else(y7 n a1 a3 a0 a2)):=by
 rw [dO]; rfl
def y8 (n:Nat) (a1:az) (a3:Int) (l:Z4) (f:aa):Option (aa×Z4) :=
 (kz l a3).bind fun b=>bif (!decide (b.cQ=(0:Int))) then(some (zv,b)) else(bif (decide (f.an=(0:Int))) then(some (zv,bif fh a1 then eV b (23:Int) else b)) else((kg a1).bind fun g=>bif g.2 then(((l9 n) b g.1 f a3).bind fun i=>some (i.1,i.2)) else(bif iS a1.ai then((jD b a1.ai f).bind fun j=>some (j.1,j.2)) else(bif (decide ((cU b.Fd a1.ai).1.an=(4:Int))) then(some ((kC b (cU b.Fd a1.ai).1 f).1,(kC b (cU b.Fd a1.ai).1 f).2)) else(((l_ n) b (cU b.Fd a1.ai).1 f a3).bind fun k=>some (k.1,k.2))))))
theorem V9 (n:Nat) (a0:Z4) (a1:az) (a2:aa) (a3:Int):eC (n+1) a0 a1 a2 a3 =
  bif (!iJ a0.Fd a1.ai) then(some (zv,eV a0 (10:Int))) else(bif (a0.f_&&(decide (a2.an=(7:Int)))) then((jC a0.dD a2.aR).bind fun b=>bif (!decide (b.1.an=(0:Int))) then((xG a0 b.1 a3).bind fun f=>some (f.1,f.2)) else(y8 n a1 a3 a0 zv)) else(y8 n a1 a3 a0 a2)):=by
 rw [eC]; rfl
def jI (M:Nat) (d:aq) (va:aa) (li:Bool) (p:Option (aa×Int×Z0)) (q:Option (aa×Z4)):Prop :=
 (∃e x c' y k',e≠0/\p=some (x,e,c')/\q=some (y,k')/\k'.cQ=e)\/(∃m x y,0<=m/\m<=4096/\p=some (x,0,⟨d,va,li,m⟩)/\q=some (y,⟨d,va,li,m,0⟩)/\Rl M x y)
theorem jI.eta {M:Nat}{d:aq}{va:aa}{li:Bool}{p:Option (aa×Int×Z0)}{q:Option (aa×Z4)}(h:jI M d va li p q) :
  jI M d va li (p.bind fun x=>some (x.1,x.2.1,x.2.2)) (q.bind fun x=>some (x.1,x.2)):=by
 have b:(p.bind fun x=>some (x.1,x.2.1,x.2.2))=p:=by cases p<;>rfl
 have f:(q.bind fun x=>some (x.1,x.2))=q:=by cases q<;>rfl
 rw [b,f]; exact h
theorem y5.KX {n M:Nat}{d:aq}{va:aa}{li:Bool}{c:Int}{p:Option (aa×Int)}{q:Option (aa×Z4)}(h:y5 n d va li c p q) (hc:0<=c/\c<=4096) (hm:n<=M) :
  jI M d va li (p.bind fun x=>some (x.1,x.2,(⟨d,va,li,c⟩:Z0))) q:=by
 rcases h with ⟨x,y,k',b,f,g⟩|⟨x,y,b,f,g⟩
 ·exact .inl ⟨23,x,_,y,k',by decide,by rw [b]; rfl,f,g⟩
 ·exact .inr ⟨c,x,y,hc.1,hc.2,by rw [b]; rfl,f,g.mono hm⟩
def y9 (N:Nat) (x:Z8):Prop:=fH x.aJ.aK/\(x.c_=true->Rl N x.dy x.dy)
def nY (N:Nat) (t:ax):Prop:=t.bl.l.length<=1048576/\∀x∈t.bl.l,y9 N x
def Ew (N M:Nat) (d:aq) (n m:Nat) (b:Int):Prop:=∀(va:aa) (li:Bool) (c:Int) (t f:az) (v w:aa),Rl (N+1) va va->0<=c/\c<=4096->fH t.aK->rp t f->Rl N v w ->
 jI M d va li (lD n ⟨d,va,li,c⟩ t v b) (l9 m ⟨d,va,li,c,0⟩ f w b)
def Ex (N M:Nat) (d:aq) (n m:Nat) (b:Int):Prop:=∀(va:aa) (li:Bool) (c:Int) (t:ax) (v w:aa),Rl (N+1) va va->0<=c/\c<=4096->nY N t->Rl N v w ->
 jI M d va li (lE n ⟨d,va,li,c⟩ t v b) (l_ m ⟨d,va,li,c,0⟩ t w b)
theorem KY {N M n m:Nat}{d:aq}{b:Int}(p:N<=M) (z:1<=M) (B:∀s,nY N (bQ d.aA.l s).1) (hl:b<=24->Ew N M d n m b) (C:b<=24->Ex N M d n m b){va:aa}{li:Bool}{c:Int}{t f:az}{v w:aa}
  (q:Rl (N+1) va va) (hc:0<=c/\c<=4096) (ht:fH t.aK) (he:rp t f) (hk:v.an=w.an) (hv:v.an≠0->Rl N v w) (hi:jE d t.ai=true) :
  jI M d va li (y7 n t b ⟨d,va,li,c⟩ v) (y8 m f b ⟨d,va,li,c,0⟩ w):=by
 unfold y7 y8;rcases KR d va li c b hc with ⟨e,c',k',he,j,g,r⟩|⟨u,K,j,g⟩
 ·rw [j,g];exact .inl ⟨e,zv,c',zv,k',he,by simp [he],by simp [r,he],r⟩
 ·rw [j,g];simp only [oB,decide_true,Bool.not_true,cond_false];rw [<- hk,yW,vQ,<- he.2];by_cases k:v.an=0
  ·simp only [k,decide_true,cond_true,tY];cases jH t.aK.l with
   | true=>exact .inl ⟨23,_,_,_,_,by decide,rfl,rfl,rfl⟩
   | false=>exact .inr ⟨c+1,_,_,by omega,by omega,rfl,rfl,yY.mono z⟩
  ·have hv:=hv k;simp only [k,decide_false,cond_false];have hlen:f.aK.l.length<=1048576:=by rw [<- he.2]; exact ht.2
   obtain⟨x,ex,E⟩:=VR (t:=f) hlen;rw [ex,Ku ht,<- he.pT];simp only [oB];cases F:iY (eW t.aK).l with
   | true =>
    simp only [cond_true];refine(hl u va li (c+1) _ _ v w q (by omega) (Kq ht) ?_ hv).eta;have h1:=E (by rw [<- he.pT]; exact F);exact⟨he.1.trans h1.1,by rw [<- h1.2]; show (eW t.aK).l.drop 1=(eW f.aK).l.drop 1; rw [he.pT]⟩
   | false =>
    simp only [cond_false];rw [Es,j8,<- he.1];have G:iS t.ai=gJ t.ai:=rfl;rw [G];obtain⟨N,rfl⟩:∃H,N=H+1:=by cases N with|zero=>exact hv.elim|succ N=>exact⟨N,rfl⟩
    cases i:gJ t.ai with
    | true =>
     have:((bQ d.aA.l t.ai).2&&!(bif (bQ d.aA.l t.ai).2 then true else false))=false:=by cases (bQ d.aA.l t.ai).2<;>rfl
     simp only [this,Bool.false_and,cond_false,cond_true];have:=(V4 hv d va li (c+1) t.ai i).KX (M:=M) (by omega) p;have g:((jD ⟨d,va,li,c+1,0⟩ t.ai w).bind fun y=>some (y.1,y.2))=jD ⟨d,va,li,c+1,0⟩ t.ai w:=by
      cases jD ⟨d,va,li,c+1,0⟩ t.ai w<;>rfl
     rw [g]; exact this
    | false =>
     simp only [cond_false];have o:(bQ d.aA.l t.ai).2=true:=by
      cases o:(bQ d.aA.l t.ai).2 with
      | true=>rfl
      | false =>
       have:=KO hi i;rw [Et _ _ o] at this;rcases this with h|h<;>cases h
     rw [o];rcases KO hi i with I|J
     ·simp only [I,decide_true,show decide ((4:Int)=5)=false from rfl,Bool.and_false,cond_false,cond_true];exact(V7 hv d va li (c+1) t.ai i).KX (M:=M) (by omega) p
     ·simp only [J,decide_true,show decide ((5:Int)=4)=false from rfl,cond_true,cond_false,Bool.not_false,Bool.and_true,Bool.and_self];exact(C u va li (c+1) _ v w q (by omega) (B _) hv).eta
theorem V_ {M:Nat}{x y r f:aa}{b g:Bool}(h:Rl (M+1) x y) (hr:Rl M r f) (i:x.an≠3) (j:x.an≠4) (k:x.av.l.length+1<=bB) :
  Rl (M+1) (aa.mk x.an x.aV x.aR b (x.av.l++[r]) x.aF) (aa.mk y.an y.aV y.aR g (y.av.l++[f]) y.aF):=by
 obtain⟨a1,a2,a3,a4,a5,m,o,p,a9⟩:=h;exact⟨a1,a2,a3,a4,a5,m,by show (x.av.l++[r]).length<=bB; simpa using k,fun h=>(h.elim i j).elim,a9.append (.cons hr .nil)⟩
def nZ (N M:Nat) (d:aq) (n m:Nat) (b:Int):Prop:=∀(va:aa) (li:Bool) (c:Int) (t f:az) (v w:aa),Rl (N+1) va va->0<=c/\c<=4096->fH t.aK->rp t f->Rl N v w ->
 jI M d va li (dO n ⟨d,va,li,c⟩ t v b) (eC m ⟨d,va,li,c,0⟩ f w b)
theorem Wa (a1:az) (a3:Int) (k:Z4->az->aa->Int->Option (aa×Z4)) (l:List aa) (w:Z4) (x:aa) (h:w.cQ≠0):iB a1 a3 k l w x=some (w,x):=by
 cases l with
 | nil=>rfl
 | cons a t=>rw [iB]; simp [h]
theorem Wb {N M n m:Nat}{d:aq}{f:Int}(bH:nZ N M d n m (f+1)) (G:0<=f/\f<=1000){va:aa}{li:Bool}{t g:az}(z:Rl (N+1) va va) (ht:fH t.aK) (he:rp t g) :
  ∀(l l':List aa) (c:Int) (x y:aa),aW (Rl N) l l'->0<=c/\c<=4096->Rl (M+1) x y->x.an≠3->x.an≠4->x.av.l.length+l.length<=bB ->
   (∃e c' k' x' i,e≠0/\kJ t f (dO n) l ⟨d,va,li,c⟩ x=some (Sum.inr (x',e,c'))/\iB g f (eC m) l' ⟨d,va,li,c,0⟩ y=some (k',i)/\k'.cQ=e) \/
   (∃c' x' i,0<=c'/\c'<=4096/\kJ t f (dO n) l ⟨d,va,li,c⟩ x=some (Sum.inl (⟨d,va,li,c'⟩,x'))/\iB g f (eC m) l' ⟨d,va,li,c,0⟩ y=some (⟨d,va,li,c',0⟩,i)/\Rl (M+1) x' i):=by
 intro l l' c x y hl;induction hl generalizing c x y with
 | nil=>intro hc j _ _ _; exact .inr ⟨c,x,y,hc.1,hc.2,rfl,rfl,j⟩
 | @cons a b H I B J C =>
  intro hc j u v o;simp only [List.length_cons] at o;have K:y.av.l.length=x.av.l.length:=j.2.2.2.2.2.2.2.2.length.symm;rw [kJ,iB];simp only [Ab.on,eH (show -9223372036854775808<=f+1/\f+1<=9223372036854775807 by omega),oB,decide_true,cond_true];have E:∀r:aa,aZ 80 x.av (⟨false,[r]⟩:Sl aa)=some ⟨x.av.nl&&[r].isEmpty,x.av.l++[r]⟩:=fun r=>iZ (by unfold bB at o; simp; omega)
  have w:∀r:aa,aZ 80 y.av (⟨false,[r]⟩:Sl aa)=some ⟨y.av.nl&&[r].isEmpty,y.av.l++[r]⟩:=fun r=>iZ (by unfold bB at o; simp; omega);rcases bH va li c t g a b z hc ht he B with ⟨e,r,c',F,k',p,q,s,k⟩|⟨c',r,F,g1,g2,q,s,k⟩
  ·left
   rw [q,s,oB,oB,w,oB,Wa _ _ _ _ _ _ (by rw [k]; exact p)];exact⟨e,c',k',_,_,p,by simp [p]; rfl,rfl,k⟩
  ·rw [q,s,oB,oB,E,w,oB,oB];simp only [decide_true,Bool.not_true,cond_false];exact C c' _ _ ⟨g1,g2⟩ (V_ j k u v (by omega)) u v (by show (x.av.l++[r]).length+_<=bB; simp; omega)
theorem Wc {N M n m:Nat}{d:aq}{b:Int}(bH:nZ N M d n m (b+1)) (u:0<=b/\b<=1000):Ew N (M+1) d (n+1) (m+1) b:=by
 intro va li c t x v w y hc ht he hv;have h0:Rl (M+1) (aa.mk (5:Int) (0:Int) ([]:Bs) true ([]) (Sl.nil:Sl Bs)) (aa.mk (5:Int) (0:Int) ([]:Bs) true ([]) (Sl.nil:Sl Bs)) :=
  ⟨rfl,⟨rfl,by show _<=(0:Int); decide,by show (0:Int)<=_; decide⟩,rfl,rfl,fun _=>rfl,by show 0<=_; omega,by show 0<=_; omega,fun h=>(by rcases h with h|h<;>cases h),.nil⟩
 have main:∀(s g:Sl aa),aW (Rl N) s.l g.l->s.l.length<=bB->jI (M+1) d va li
   ((kJ t b (dO n) s.l ⟨d,va,li,c⟩ (aa.mk (5:Int) (0:Int) ([]:Bs) true ([]) (Sl.nil:Sl Bs))).bind fun z=>match z with|Sum.inl p=>(on ((p.1,p.2)) fun f=>some (f.2,(0:Int),f.1))|Sum.inr B=>(some B))
   ((iB x b (eC m) g.l ⟨d,va,li,c,0⟩ (aa.mk (5:Int) (0:Int) ([]:Bs) true ([]) (Sl.nil:Sl Bs))).bind fun q=>on ((q.1,q.2)) fun f=>some (f.2,f.1)):=by
  intro s g C F;rcases Wb bH u (li:=li) y ht he s.l g.l c _ _ C hc h0 (by decide) (by decide) (by show 0+_<=_; omega) with ⟨e,c',k',x',i,E,j,k,o⟩|⟨c',x',i,g1,g2,j,k,o⟩
  ·rw [j,k]; exact .inl ⟨e,x',c',i,k',E,rfl,rfl,o⟩
  ·rw [j,k]; exact .inr ⟨c',x',i,g1,g2,rfl,rfl,o⟩
 rw [lD,l9];have hk:v.an=w.an:=by cases N with|zero=>exact hv.elim|succ N=>exact hv.1
 rw [<- hk];by_cases r:v.an=5
 ·simp only [r,decide_true,Bool.not_true,cond_false,cond_true];cases N with
  | zero=>exact hv.elim
  | succ N=>exact main v.av w.av (hv.2.2.2.2.2.2.2.2.imp fun _ _ h=>h.mono (by omega)) hv.2.2.2.2.2.2.1
 ·simp only [r,decide_false,Bool.not_false,cond_false,cond_true];exact main ⟨false,[v]⟩ ⟨false,[w]⟩ (.cons hv .nil) (by show 1<=bB; unfold bB; omega)
def Ey (N M:Nat) (d:aq) (n m:Nat) (b:Int):Prop:=∀(va:aa) (li:Bool) (c:Int) (x:Z8),0<=c/\c<=4096->y9 N x->x.c_=true ->
 jI M d va li (fm n ⟨d,va,li,c⟩ x b) (gw m ⟨d,va,li,c,0⟩ x.aJ x.dy b)
theorem Wd {N M n m:Nat}{d:aq}{j:Int}(bH:nZ N M d n m j):Ey N M d (n+1) (m+1) j:=by
 intro va li c x hc k hh;rw [fm,gw];rcases bH zv true c x.aJ x.aJ x.dy x.dy (yY.mono (by omega)) hc k.1 ⟨rfl,rfl⟩ (k.2 hh) with ⟨e,r,c',g,k',l,b,f,i⟩|⟨c',r,g,g1,g2,b,f,i⟩
 ·unfold zv at b f;rw [b,f];exact .inl ⟨e,r,_,g,_,l,rfl,rfl,i⟩
 ·unfold zv at b f;rw [b,f];exact .inr ⟨c',r,g,g1,g2,rfl,rfl,i⟩
theorem We (t:ax) (l:List Bs) (w:Z4) (h:w.cQ=22):iC t l w=w:=by
 induction l generalizing w with
 | nil=>rfl
 | cons a r b =>
  rw [iC];have:eV w 22=w:=by unfold eV; rw [h]; rfl
  simp only [Ab.on,this];cases (!(iI t.bl a).2)<;>exact b w h
theorem Wf (d:aq) (va:aa) (li:Bool) (c:Int) (t:ax) (l:List Bs) :
  (kK ⟨d,va,li,c⟩ t l=Sum.inr (zv,22,⟨d,va,li,c⟩)/\iC t l ⟨d,va,li,c,0⟩=⟨d,va,li,c,22⟩) \/
  (kK ⟨d,va,li,c⟩ t l=Sum.inl ()/\iC t l ⟨d,va,li,c,0⟩=⟨d,va,li,c,0⟩):=by
 induction l with
 | nil=>exact .inr ⟨rfl,rfl⟩
 | cons a r b =>
  rw [kK,iC];simp only [Ab.on,tY,VU,yV];cases h:(nV t.bl.l a).2 with
  | true=>simpa using b
  | false =>
   left
   simp only [Bool.not_false,cond_true];exact⟨rfl,We t r _ rfl⟩
theorem Wg (a0:Sl Z8) (i:Nat) (x:Z8) (hi:a0.l[i]?=some x) (t:a0.l.length<=1048576):∀(k f:Nat) (s:Nat),s+k=i->k<f ->
  nL a0 (i:Int) f (s:Int)=some (((a0.l.take i).drop s).any fun y=>y.ai==x.ai):=by
 have u:i<a0.l.length:=(List.getElem?_eq_some_iff.1 hi).1;intro k;induction k with
 | zero =>
  intro f s b j;obtain⟨f,rfl⟩:∃g,f=g+1:=⟨f-1,by omega⟩;rw [nL,show decide ((s:Int)<(i:Int))=false from dF (by omega),cond_false,List.drop_of_length_le (by simp; omega)]; rfl
 | succ k m =>
  intro f s b j;obtain⟨f,rfl⟩:∃g,f=g+1:=⟨f-1,by omega⟩;have o:s<a0.l.length:=by omega
  rw [nL,show decide ((s:Int)<(i:Int))=true from dT (by omega),cond_true];have p:bV a0.l (s:Int)=some a0.l[s]:=by unfold bV; rw [if_pos (by omega),show ((s:Int).toNat)=s by omega,List.getElem?_eq_getElem o]
  have q:bV a0.l (i:Int)=some x:=by unfold bV; rw [if_pos (by omega),show ((i:Int).toNat)=i by omega,hi]
  rw [p,q,oB,oB];have r:(a0.l.take i).drop s=a0.l[s]::(a0.l.take i).drop (s+1):=by
   rw [List.drop_eq_getElem_cons (by simp; omega)]; simp
  rw [r,List.any_cons,eH (by omega),oB];cases a0.l[s].ai==x.ai with
  | true=>rfl
  | false=>rw [cond_false,Bool.false_or]; exact m f (s+1) (by omega) (by omega)
theorem Wh (a0:Sl Z8) (i:Nat) (x:Z8) (hi:a0.l[i]?=some x) (b:a0.l.length<=1048576):qL a0 (i:Int)=some (nV (a0.l.take i) x.ai).2:=by
 have f:i<a0.l.length:=(List.getElem?_eq_some_iff.1 hi).1;unfold qL sU;have:=Wg a0 i x hi b i F0 0 (by omega) (by rw [dM]; omega);rw [show ((0:Int))=((0:Nat):Int) from rfl,this,List.drop_zero];unfold nV
 congr 1
 cases h:(a0.l.take i).find? (fun t=>t.ai==x.ai) with
 | none=>rw [List.find?_eq_none] at h; rw [List.any_eq_false]; exact h
 | some t=>exact List.any_eq_true.2 ⟨t,List.mem_of_find?_eq_some h,by simpa using List.find?_some h⟩
theorem Wi {M:Nat}{x y r f:aa}{b g k k':Bool}{nm:Bs}(h:Rl (M+1) x y) (hr:Rl M r f) (i:x.an≠3) (j:x.an≠4) (m:x.av.l.length+1<=bB) (o:x.aF.l.length+1<=bB) (hk:k=false) :
  Rl (M+1) (aa.mk x.an x.aV x.aR b (x.av.l++[r]) ⟨k,x.aF.l++[nm]⟩) (aa.mk y.an y.aV y.aR g (y.av.l++[f]) ⟨k',y.aF.l++[nm]⟩):=by
 obtain⟨a1,a2,a3,a4,a5,p,q,s,a9⟩:=h;exact⟨a1,a2,a3,by show x.aF.l++[nm]=y.aF.l++[nm]; rw [a4],fun e=>(by have e:k=true:=e; rw [hk] at e; cases e),by show (x.aF.l++[nm]).length<=bB; simpa using o,by show (x.av.l++[r]).length<=bB; simpa using m,
  fun h=>(h.elim i j).elim,a9.append (.cons hr .nil)⟩
def vS (M:Nat) (d:aq) (va:aa) (li:Bool) (p:Option (((Z0×aa)) ⊕ ((aa×Int×Z0)))) (q:Option (Z4×aa)):Prop :=
 (∃e c' k' x' b,e≠0/\p=some (Sum.inr (x',e,c'))/\q=some (k',b)/\k'.cQ=e) \/
 (∃c' x' b,0<=c'/\c'<=4096/\p=some (Sum.inl (⟨d,va,li,c'⟩,x'))/\q=some (⟨d,va,li,c',0⟩,b)/\Rl M x' b)
def pU (b:aa) (nm:Bs) (rec:Z0->aa->Option (((Z0×aa)) ⊕ ((aa×Int×Z0)))) (e:Int) (c:Z0) (z:aa):Option (((Z0×aa)) ⊕ ((aa×Int×Z0))) :=
 bif (!decide (e=(0:Int))) then(some (Sum.inr (zv,e,c))) else((aZ 16 b.aF (⟨false,[nm]⟩:Sl Bs)).bind fun g=>(aZ 80 b.av (⟨false,[z]⟩:Sl aa)).bind fun f=>rec c (aa.mk b.an b.aV b.aR f.nl f.l g))
def pV (b:aa) (nm:Bs) (w:Z4) (z:aa):Option (Z4×aa) :=
 (aZ 16 b.aF (⟨false,[nm]⟩:Sl Bs)).bind fun g=>(aZ 80 b.av (⟨false,[z]⟩:Sl aa)).bind fun f=>some (w,(aa.mk b.an b.aV b.aR f.nl f.l g))
theorem Wj {M:Nat}{d:aq}{va:aa}{li:Bool}{x y:aa}{nm:Bs}{o:Z0->aa->Option (((Z0×aa)) ⊕ ((aa×Int×Z0)))}{rr:Z4->aa->Option (Z4×aa)}
  (f:Rl (M+1) x y) (v:x.an≠3) (B:x.an≠4) (g:x.av.l.length+1<=bB) (i:x.aF.l.length+1<=bB)
  (C:∀w z,w.cQ≠0->rr w z=some (w,z))
  (E:∀(c:Int) (x' s:aa),0<=c/\c<=4096->Rl (M+1) x' s->x'.an=x.an->x'.av.l.length=x.av.l.length+1->x'.aF.l.length=x.aF.l.length+1->vS (M+1) d va li (o ⟨d,va,li,c⟩ x') (rr ⟨d,va,li,c,0⟩ s))
  {p:Option (aa×Int×Z0)}{q:Option (aa×Z4)}(h:jI M d va li p q) :
  vS (M+1) d va li (p.bind fun r=>pU x nm o r.2.1 r.2.2 r.1) ((q.bind fun r=>pV y nm r.2 r.1).bind fun z=>rr z.1 z.2):=by
 have J:y.av.l.length=x.av.l.length:=f.2.2.2.2.2.2.2.2.length.symm;have F:y.aF.l=x.aF.l:=f.2.2.2.1.symm;have G:∀r:aa,aZ 80 x.av (⟨false,[r]⟩:Sl aa)=some ⟨x.av.nl&&[r].isEmpty,x.av.l++[r]⟩:=fun r=>iZ (by unfold bB at g; simp; omega);have t:∀r:aa,aZ 80 y.av (⟨false,[r]⟩:Sl aa)=some ⟨y.av.nl&&[r].isEmpty,y.av.l++[r]⟩:=fun r=>iZ (by unfold bB at g; simp; omega)
 have H:aZ 16 x.aF (⟨false,[nm]⟩:Sl Bs)=some ⟨x.aF.nl&&[nm].isEmpty,x.aF.l++[nm]⟩:=uC (by omega) (by unfold bB at i; simp; omega);have u:aZ 16 y.aF (⟨false,[nm]⟩:Sl Bs)=some ⟨y.aF.nl&&[nm].isEmpty,y.aF.l++[nm]⟩:=uC (by omega) (by rw [F]; unfold bB at i; simp; omega);rcases h with ⟨e,r,c',I,k',j,k,m,b⟩|⟨c',r,I,g1,g2,k,m,b⟩
 ·left
  rw [k,m];unfold pU pV;simp only [oB,u,t];rw [C _ _ (by rw [b]; exact j)];exact⟨e,c',k',zv,_,j,by simp [j],rfl,b⟩
 ·rw [k,m];unfold pU pV;simp only [oB,u,t,H,G,decide_true,Bool.not_true,cond_false];exact E c' _ _ ⟨g1,g2⟩ (Wi f b v B g i (by simp)) rfl (by show (x.av.l++[r]).length=_; simp) (by show (x.aF.l++[nm]).length=_; simp)
theorem KZ (a1:ax) (a2:aa) (a3:Int) (k k2:Z4->az->aa->Int->Option (aa×Z4)) (l:List Z8) (i:Nat) (w:Z4) (x:aa) (h:w.cQ≠0):gp a1 a2 a3 k k2 l i w x=some (w,x):=by
 cases l with
 | nil=>rfl
 | cons a t=>rw [gp]; simp [h]
theorem Wl (a1:ax) (a2:aa) (a3:Int) (b:Z0->az->aa->Int->Option (aa×Int×Z0)) (f:Z0->Z8->Int->Option (aa×Int×Z0)) (h:Z8) (r:List Z8) (i:Nat) (c:Z0) (x:aa) :
  ek a1 a2 a3 b f (h::r) i c x=bif (iV (⟨a1.bl.nl,a1.bl.l.take i⟩:Sl Z8) h.ai).2 then(ek a1 a2 a3 b f r (i+1) c x) else
   ((iE a2 h.ai).bind fun g=>aN (g.2) (mv c g.1) false fun m =>
    bif (g.2&&(!m)) then((bG a3 (1:Int)).bind fun o=>(b c h.aJ g.1 o).bind fun j=>pU x h.ai (ek a1 a2 a3 b f r (i+1)) j.2.1 j.2.2 j.1)
    else(bif h.c_ then((bG a3 (1:Int)).bind fun p=>(f c h p).bind fun k=>pU x h.ai (ek a1 a2 a3 b f r (i+1)) k.2.1 k.2.2 k.1)
    else(bif gq h.aJ then(pU x h.ai (ek a1 a2 a3 b f r (i+1)) (22:Int) c aa.zero) else(ek a1 a2 a3 b f r (i+1) c x)))):=by
 rw [ek]; rfl
theorem Wm (a1:ax) (a2:aa) (a3:Int) (f g:Z4->az->aa->Int->Option (aa×Z4)) (h:Z8) (r:List Z8) (i:Nat) (w:Z4) (x:aa) (hw:w.cQ=0) :
  gp a1 a2 a3 f g (h::r) i w x=((qL a1.bl ((i:Nat):Int)).bind fun m=>Option.bind (bif m then(some (w,x)) else
   ((jC a2 h.ai).bind fun b=>aN (b.2) (kw w b.1) false fun o =>
    bif (b.2&&(!o)) then((bG a3 (1:Int)).bind fun p=>(f w h.aJ b.1 p).bind fun j=>pV x h.ai j.2 j.1)
    else(bif h.c_ then((bG a3 (1:Int)).bind fun q=>(g w h.aJ h.dy q).bind fun k=>pV x h.ai k.2 k.1)
    else(bif fh h.aJ then(pV x h.ai (eV w (22:Int)) aa.zero) else(some (w,x)))))) fun l=>gp a1 a2 a3 f g r (i+1) l.1 l.2):=by
 rw [gp];simp only [hw,decide_true,cond_true];rfl
theorem Wn {N M n m:Nat}{d:aq}{f:Int}(Q:N+1<=1099511627776) (bH:nZ (N+1) M d n m (f+1)) (R:Ey (N+1) M d n m (f+1)) (ak:0<=f/\f<=1000){va:aa}{li:Bool}{t:ax}{v w:aa}
  (E:Rl (N+2) va va) (ht:nY (N+1) t) (hv:Rl (N+1) v w) :
  ∀(l:List Z8) (i:Nat) (c:Int) (x y:aa),t.bl.l.drop i=l->0<=c/\c<=4096->Rl (M+1) x y->x.an=6->x.av.l.length+l.length<=1048576->x.aF.l.length+l.length<=1048576 ->
   vS (M+1) d va li (ek t v f (dO n) (fm n) l i ⟨d,va,li,c⟩ x) (gp t w f (eC m) (gw m) l i ⟨d,va,li,c,0⟩ y):=by
 intro l;induction l with
 | nil=>intro i c x y _ hc g _ _ _; exact .inr ⟨c,x,y,hc.1,hc.2,rfl,rfl,g⟩
 | cons h r F =>
  intro i c x y s hc g j S U;simp only [List.length_cons] at S U;have G:i<t.bl.l.length:=by
   rcases Nat.lt_or_ge i t.bl.l.length with c|c
   ·exact c
   ·rw [List.drop_of_length_le c] at s; cases s
  have u:=List.drop_eq_getElem_cons G;rw [s] at u;simp only [List.cons.injEq] at u;obtain⟨hh,hr⟩:=u;have H:t.bl.l[i]?=some h:=by rw [List.getElem?_eq_getElem G,hh]
  have I:y9 (N+1) h:=ht.2 h (List.mem_of_getElem? H);have B:x.an≠3:=by rw [j]; decide
  have J:x.an≠4:=by rw [j]; decide
  rw [Wl,Wm _ _ _ _ _ _ _ _ _ _ rfl,Wh t.bl i h H ht.1,yV,oB];have skip:=F (i+1) c x y hr.symm hc g j (by omega) (by omega);have W:∀(c:Int) (x' o:aa),0<=c/\c<=4096->Rl (M+1) x' o->x'.an=x.an->x'.av.l.length=x.av.l.length+1->x'.aF.l.length=x.aF.l.length+1 ->
    vS (M+1) d va li (ek t v f (dO n) (fm n) r (i+1) ⟨d,va,li,c⟩ x') (gp t w f (eC m) (gw m) r (i+1) ⟨d,va,li,c,0⟩ o) :=
   fun c x' o h1 X B J al=>F (i+1) c x' o hr.symm h1 X (B.trans j) (by omega) (by omega)
  have fin:∀{p q},jI M d va li p q->_:=fun {p q} h1=>Wj (nm:=h.ai) (rr:=fun k z=>gp t w f (eC m) (gw m) r (i+1) k z) (p:=p) (q:=q) g B J (by unfold bB; omega) (by unfold bB; omega) (fun w z hw=>KZ _ _ _ _ _ _ _ _ _ hw) W h1;have K:bG f (1:Int)=some (f+1):=eH (by omega);cases (nV (t.bl.l.take i) h.ai).2 with
  | true=>simp only [cond_true,oB]; exact skip
  | false =>
   simp only [cond_false];obtain⟨Y,Z,b,ab,ad,ae⟩:=Ev hv (by omega) h.ai;rw [ab,ad,oB,oB];have rest:vS (M+1) d va li
     (bif h.c_ then((bG f (1:Int)).bind fun af=>(fm n ⟨d,va,li,c⟩ h af).bind fun C=>pU x h.ai (ek t v f (dO n) (fm n) r (i+1)) C.2.1 C.2.2 C.1)
      else(bif gq h.aJ then(pU x h.ai (ek t v f (dO n) (fm n) r (i+1)) (22:Int) ⟨d,va,li,c⟩ aa.zero) else(ek t v f (dO n) (fm n) r (i+1) ⟨d,va,li,c⟩ x)))
     (Option.bind (bif h.c_ then((bG f (1:Int)).bind fun ag=>(gw m ⟨d,va,li,c,0⟩ h.aJ h.dy ag).bind fun L=>pV y h.ai L.2 L.1)
      else(bif fh h.aJ then(pV y h.ai (eV ⟨d,va,li,c,0⟩ (22:Int)) aa.zero) else(some (⟨d,va,li,c,0⟩,y)))) fun O=>gp t w f (eC m) (gw m) r (i+1) O.1 O.2):=by
    cases hh:h.c_ with
    | true =>
     simp only [cond_true,K,oB];exact fin (R va li c h hc I hh)
    | false =>
     simp only [cond_false];rw [vQ,yW];cases jH h.aJ.aK.l with
     | true =>
      simp only [cond_true,tY];exact fin (p:=some (aa.zero,22,⟨d,va,li,c⟩)) (q:=some (aa.zero,⟨d,va,li,c,22⟩)) (.inl ⟨22,_,_,_,_,by decide,rfl,rfl,rfl⟩)
     | false=>simp only [cond_false,oB]; exact skip
   rcases ae with ⟨rfl,P⟩|⟨rfl,am,ao⟩
   ·obtain⟨aj,m1,m2⟩:=VY (n:=N+1) E Q d li c P;simp only [aN,if_true,m1,m2,oB];cases aj with
    | true=>simp only [Bool.not_true,Bool.and_false,cond_false]; exact rest
    | false =>
     simp only [Bool.not_false,Bool.and_true,cond_true,K,oB];exact fin (bH va li c h.aJ h.aJ Y Z E hc I.1 ⟨rfl,rfl⟩ (P.mono (by omega)))
   ·simp only [aN,Bool.false_eq_true,if_false,Bool.false_and,cond_false];exact rest
theorem Wo {N M n m:Nat}{d:aq}{b:Int}(q:N<=1099511627776) (bH:nZ N M d n m (b+1)) (r:Ey N M d n m (b+1)) (s:0<=b/\b<=1000):Ex N (M+1) d (n+1) (m+1) b:=by
 intro va li c t v w u hc ht hv;obtain⟨N,rfl⟩:∃x,N=x+1:=by cases N with|zero=>exact hv.elim|succ N=>exact⟨N,rfl⟩
 have h0:Rl (M+1) (aa.mk (6:Int) (0:Int) ([]:Bs) true ([]) (Sl.nil:Sl Bs)) (aa.mk (6:Int) (0:Int) ([]:Bs) true ([]) (Sl.nil:Sl Bs)) :=
  ⟨rfl,⟨rfl,by show _<=(0:Int); decide,by show (0:Int)<=_; decide⟩,rfl,rfl,fun _=>rfl,by show 0<=_; omega,by show 0<=_; omega,fun h=>(by rcases h with h|h<;>cases h),.nil⟩
 rw [lE,l_,<- hv.1,<- hv.2.2.2.1];by_cases p:v.an=6
 ·simp only [p,decide_true,Bool.not_true,cond_false,Ab.on];rcases Wf d va li c t v.aF.l with ⟨f,g⟩|⟨f,g⟩
  ·rw [f,g];rw [KZ _ _ _ _ _ _ _ _ _ (by show (22:Int)≠0; decide)];exact .inl ⟨22,zv,_,_,_,by decide,rfl,rfl,rfl⟩
  ·rw [f,g];simp only;rcases Wn q bH r s (li:=li) u ht hv t.bl.l 0 c _ _ (by simp) hc h0 rfl (by show 0+_<=_; have:=ht.1; omega) (by show 0+_<=_; have:=ht.1; omega) with ⟨e,c',k',x',i,y,j,k,o⟩|⟨c',x',i,g1,g2,j,k,o⟩
   ·rw [j,k]; exact .inl ⟨e,x',c',i,k',y,rfl,rfl,o⟩
   ·rw [j,k]; exact .inr ⟨c',x',i,g1,g2,rfl,rfl,o⟩
 ·simp only [p,decide_false,Bool.not_false,cond_true,Ab.on,tY];exact .inl ⟨23,_,_,_,_,by decide,rfl,rfl,rfl⟩
theorem Ez {N M n m:Nat}{d:aq}{f:Int}(K:N+1<=1099511627776) (j:N<=M) (r:1<=M) (u:∀s,nY N (bQ d.aA.l s).1) (L:0<=f/\f<=1000) (hl:f<=24->Ew N M d n m f) (y:f<=24->Ex N M d n m f):nZ N M d (n+1) (m+1) f:=by
 intro va li c t O v w k hc ht he hv;rw [V8,V9,VV,<- he.1];cases hi:jE d t.ai with
 | false=>exact .inl ⟨10,zv,_,zv,_,by decide,rfl,rfl,rfl⟩
 | true =>
  have hk:v.an=w.an:=by cases N with|zero=>exact hv.elim|succ N=>exact hv.1
  have F:v.aR=w.aR:=by cases N with|zero=>exact hv.elim|succ N=>exact hv.2.2.1
  have G:(li&&decide (w.an=7))=(decide (v.an=7)&&li):=by rw [hk,Bool.and_comm]
  simp only [Bool.not_true,cond_false,G];cases P:(decide (v.an=7)&&li) with
  | false=>exact KY j r u hl y k hc ht he hk (fun _=>hv) hi
  | true =>
   simp only [cond_true];obtain⟨i,z,b,H,I,B⟩:=Ev k (by omega) v.aR;rw [<- F,H,I,oB,oB];have J:i.an=z.an:=by
    rcases B with ⟨_,h⟩|⟨_,h1,C⟩
    ·cases N with|zero=>exact h.elim|succ N=>exact h.1
    ·rw [h1,C]
   simp only [<- J];by_cases g:i.an=0
   ·simp only [g,decide_true,Bool.not_true,cond_false];exact KY j r u hl y k hc ht he g (fun h=>(h g).elim) hi
   ·simp only [g,decide_false,Bool.not_false,cond_true];have hr:Rl N i z:=by
     rcases B with ⟨_,h⟩|⟨_,h1,C⟩
     ·exact h
     ·rw [h1] at g; exact(g rfl).elim
    unfold tf xG;rcases KT N hr F0 d va li c f (by rw [dM]; omega) hc (by omega) with ⟨e,c',x,k',E,o,p,q⟩|⟨c',x,g1,g2,o,p,q⟩
    ·rw [o,p];exact .inl ⟨e,zv,c',x,k',E,by simp [E],rfl,q⟩
    ·rw [o,p];exact .inr ⟨c',i,x,g1,g2,rfl,rfl,q.mono j⟩
theorem Wp {N:Nat}{d:aq}(f:N+1<=1099511627776) (g:∀s,nY N (bQ d.aA.l s).1):∀(k:Nat) (b:Int),1<=b/\b<=900->25<=b+k->∀n m,3*k+1<=n->3*k+1<=m->nZ N (N+k+1) d n m b:=by
 intro k;induction k with
 | zero =>
  intro b hl hk n m hn hm va li c t o v w p hc ht he hv;obtain⟨n,rfl⟩:∃x,n=x+1:=⟨n-1,by omega⟩;obtain⟨m,rfl⟩:∃x,m=x+1:=⟨m-1,by omega⟩;exact Ez f (by omega) (by omega) g (by omega) (fun h=>by omega) (fun h=>by omega) va li c t o v w p hc ht he hv
 | succ k i =>
  intro b hl hk n m hn hm;obtain⟨n,rfl⟩:∃x,n=x+3:=⟨n-3,by omega⟩;obtain⟨m,rfl⟩:∃x,m=x+3:=⟨m-3,by omega⟩;by_cases j:b<=24
  ·have a1:nZ N (N+k+1) d n m (b+1):=i (b+1) (by omega) (by omega) n m (by omega) (by omega);have a2:nZ N (N+k+1) d (n+1) (m+1) (b+1):=i (b+1) (by omega) (by omega) _ _ (by omega) (by omega);exact Ez f (by omega) (by omega) g (by omega) (fun _=>Wc a2 (by omega)) (fun _=>Wo (by omega) a2 (Wd a1) (by omega))
  ·exact Ez f (by omega) (by omega) g (by omega) (fun h=>(j h).elim) (fun h=>(j h).elim)
def EA (M:Nat) (p q:Option (aa×Int)):Prop:=∃x y e,p=some (x,e)/\q=some (y,e)/\Rl M x y
theorem Wq {N M:Nat}(k:1<=M) (o:M<=1099511627776){d:aq}{va:aa}{li:Bool}{p:Option (aa×Int×Z0)}{q:Option (aa×Z4)}(h:jI M d va li p q) :
  EA M (p.bind fun x=>mu x.1 x.2.1) (q.bind fun x=>bif (!decide (x.2.cQ=(0:Int))) then some (zv,x.2.cQ) else some (x.1,0)):=by
 rcases h with ⟨e,r,c',i,k',j,b,f,g⟩|⟨c',r,i,g1,g2,b,f,g⟩
 ·rw [b,f];refine⟨zv,zv,e, ?_, ?_,yY.mono k⟩
  ·unfold mu; simp [j]; rfl
  ·simp [g,j]
 ·rw [b,f];obtain⟨x,l,m⟩:=Eu M g F0 (by rw [dM]; omega);refine⟨x,i,0, ?_,by simp,m⟩;unfold mu q6;simp [l]
theorem Wr {N:Nat}{d:aq}(p:N+1<=1099511627000) (g:∀s,nY N (bQ d.aA.l s).1){va:aa}{li:Bool}{t:az}{v w:aa}(i:Rl (N+1) va va) (ht:fH t.aK) (hv:Rl N v w) :
  EA (N+25) ((vm ⟨d,va,li,0⟩ t v 1).bind fun b=>(mu b.1 b.2.1).bind fun f=>some (f.1,f.2)) ((kD ⟨d,va,li,0,0⟩ t w).bind fun x=>some (x.1,x.2.1)):=by
 have h:=Wp (by omega) g 24 1 (by omega) (by omega) F0 F0 (by rw [dM]; omega) (by rw [dM]; omega) va li 0 t t v w i (by omega) ht ⟨rfl,rfl⟩ hv;have j:=Wq (N:=N) (by omega) (by omega) h;unfold kD vm uZ;obtain⟨x,y,e,k,m,o⟩:=j;refine⟨x,y,e, ?_, ?_,o⟩
 ·rw [<- k];cases dO F0 ⟨d,va,li,0⟩ t v 1 with
  | none=>rfl
  | some a=>simp only [oB]; cases mu a.1 a.2.1<;>rfl
 ·rw [<- m];cases eC F0 ⟨d,va,li,0,0⟩ t w 1 with
  | none=>rfl
  | some a=>simp only [oB]; cases (!decide (a.2.cQ=(0:Int)))<;>rfl
theorem Ws {N:Nat}{d:aq}(b:N+1<=1099511627000) (f:∀s,nY N (bQ d.aA.l s).1){t:az}{v w:aa}(ht:fH t.aK) (hv:Rl N v w) :
  EA (N+25) (nT d t v) (mC d t w):=by
 unfold nT mC;exact Wr b f (va:=zv) (yY.mono (by omega)) ht hv
theorem Wt {v:aa}{b:Bool}(h:k7 v b=some true) (hk:v.an=3\/v.an=4):v.aV=0/\v.av.l=[]/\v.aF.l=[]:=by
 unfold k7 at h;rcases hk with hk|hk
 ·simp [hk,Ab.on] at h;exact⟨h.1.1,h.1.2,h.2⟩
 ·simp only [hk,show decide ((4:Int)=0)=false from rfl,show decide ((4:Int)=1)=false from rfl,show decide ((4:Int)=2)=false from rfl,show decide ((4:Int)=3)=false from rfl,decide_true,cond_false,cond_true,Ab.on] at h;cases c:(((decide (v.aV=(0:Int)))&&(decide (((v.av.l.length:Nat):Int)=(0:Int))))&&(decide (((v.aF.l.length:Nat):Int)=(0:Int)))) with
  | true=>simp at c; exact⟨c.1.1,c.1.2,c.2⟩
  | false=>rw [c] at h; simp at h
theorem K0 (n:Nat):∀(v:aa) (b:Bool),fJ n v b=some true->v.wf->v.sz<=1048576->Rl n v v:=by
 induction n with
 | zero=>intro v b h; cases h
 | succ n o =>
  intro v b h hw q;rw [fJ] at h;cases e:k7 v b with
  | none=>rw [e] at h; cases h
  | some x =>
   cases x with
   | false=>rw [e] at h; cases h
   | true =>
    rw [e] at h;simp only [oB,Bool.not_true,cond_false,Ab.on] at h;have m:=(aa.lQ v).1 hw;have s:=v.bM;have hl:∀l:List aa,iz b (fJ n) l=some (Sum.inl ())->∀x∈l,fJ n x b=some true:=by
     intro l;induction l with
     | nil=>intro _ x g; cases g
     | cons a r i =>
      intro h;rw [iz] at h;simp only [Ab.on] at h;cases e:fJ n a b with
      | none=>simp [e] at h
      | some y =>
       cases y with
       | false=>simp [e] at h
       | true =>
        simp only [e,oB,Bool.not_true,cond_false] at h;intro x g;rcases List.mem_cons.1 g with rfl|g
        ·exact e
        ·exact i h x g
    have p:∀x∈v.av.l,fJ n x b=some true:=by
     cases j:k8 b v.aF.l with
     | inr y=>rw [j] at h; simp only [Option.some.injEq] at h; subst h; exact absurd j (by
       intro j;have:∀l:List Bs,k8 b l≠Sum.inr true:=by
        intro l;induction l with
        | nil=>intro h; cases h
        | cons a r i =>
         rw [k8]; simp only [Ab.on];cases (b&&!(bif b then eE (bif b then a else []) else false)) with
         | true=>intro h; cases h
         | false=>exact i
       exact this _ j)
     | inl _ =>
      rw [j] at h;simp only at h;cases k:iz b (fJ n) v.av.l with
      | none=>rw [k] at h; cases h
      | some z =>
       cases z with
       | inl _=>exact hl _ k
       | inr y =>
        rw [k] at h;simp only [oB,Option.some.injEq] at h;subst h;have:∀l:List aa,iz b (fJ n) l≠some (Sum.inr true):=by
         intro l;induction l with
         | nil=>intro h; cases h
         | cons a r i =>
          rw [iz]; simp only [Ab.on];cases fJ n a b with
          | none=>intro h; cases h
          | some y =>
           cases y with
           | false=>intro h; cases h
           | true=>exact i
        exact(this _ k).elim
    have t:=Sl.dN (f:=aa.sz) v.av (fun x=>by have:=x.bM; omega);have u:=Sl.dN (f:=Bs.sz) v.aF (fun x=>Bs.gF x);have self:∀l:List aa,(∀x∈l,Rl n x x)->aW (Rl n) l l:=by
     intro l;induction l with
     | nil=>intro _; exact .nil
     | cons a r i=>intro h; exact .cons (h a (by simp)) (i fun x g=>h x (by simp [g]))
    refine⟨rfl,⟨rfl,m.2.1⟩,rfl,rfl,m.2.2.2.2.1.1,by unfold bB; omega,by unfold bB; omega,Wt e,self _ fun x g=>o x b (p x g) ?_ ?_⟩
    ·exact m.2.2.2.1.2.2 x g
    ·have:=Sl.dV (f:=aa.sz) g; omega
theorem Wu {v:aa}(h:gH v=some true):fJ F0 v true=some true:=by
  unfold gH at h;obtain⟨a,_,h⟩:=gA h;rcases fp h with ⟨_,b,_,h⟩|⟨_,h⟩
  · rcases fp h with ⟨_,c,e,h⟩|⟨_,h⟩
    · simp at h; rw [h.2] at e; exact e
    · simp at h
  · rcases fp h with ⟨_,c,e,h⟩|⟨_,h⟩
    · simp at h; rw [h.2] at e; exact e
    · simp at h
theorem Ww {v:aa}(h:mD v=some true):fJ F0 v false=some true:=by
  unfold mD at h;obtain⟨a,_,h⟩:=gA h;rcases fp h with ⟨_,b,_,h⟩|⟨_,h⟩
  · rcases fp h with ⟨_,c,e,h⟩|⟨_,h⟩
    · simp at h; rw [h.2] at e; exact e
    · simp at h
  · rcases fp h with ⟨_,c,e,h⟩|⟨_,h⟩
    · simp at h; rw [h.2] at e; exact e
    · simp at h
theorem Wx (l:List Z8) (z:Unit ⊕ Bool) (h:jV l=some z):(z=Sum.inl ()/\∀x∈l,x.c_=true->gH x.dy=some true)\/z=Sum.inr false:=by
  induction l generalizing z with
  | nil=>rw [jV] at h; exact .inl ⟨(oJ h).symm,fun a j=>by cases j⟩
  | cons a r k =>
    rw [jV] at h;simp only [Ab.on] at h;have step:∀(b:Bool),(a.c_=true->gH a.dy=some b)->∀f:Bool,(bif ((a.c_&&((!b)||(!f)))||((!a.c_)&&(!(bif (!(a.c_&&((!b)||(!f)))&&(!a.c_)) then uJ a.dy else false)))) then(some (Sum.inr false)) else(jV r))=some z ->
        (z=Sum.inl ()/\∀x∈a::r,x.c_=true->gH x.dy=some true)\/z=Sum.inr false:=by
      intro b e f h;rcases eT h with ⟨_,h⟩|⟨hc,h⟩
      · exact .inr (oJ h).symm
      · rcases k z h with ⟨h1,m⟩|h1
        · refine .inl ⟨h1,fun x i hh=>?_⟩
          rcases List.mem_cons.1 i with rfl|i
          · have:=e hh
            rw [hh] at hc;cases b with
            | true=>exact this
            | false=>simp at hc
          · exact m x i hh
        · exact .inr h1
    rcases fp h with ⟨_,o,_,h⟩|⟨_,h⟩<;>rcases fp h with ⟨_,p,_,h⟩|⟨_,h⟩<;>rcases eT h with ⟨_,h⟩|⟨_,h⟩;all_goals first
      | exact .inr (oJ h).symm
      | (rcases fp h with ⟨_,b,g,h⟩|⟨g,h⟩
         · rcases fp h with ⟨_,f,_,h⟩|⟨_,h⟩
           · exact step b (fun _=>g) f h
           · exact step b (fun _=>g) false h
         · rcases fp h with ⟨_,f,_,h⟩|⟨_,h⟩
           · exact step false (fun hh=>by rw [hh] at g; cases g) f h
           · exact step false (fun hh=>by rw [hh] at g; cases g) false h)
theorem K_ {s:Sl Z8}(h:gZ s=some true):∀x∈s.l,x.c_=true->gH x.dy=some true:=by
  unfold gZ at h;rcases eT h with ⟨_,h⟩|⟨_,h⟩
  · cases h
  · obtain⟨z,g,h⟩:=gA h
    rcases Wx _ _ g with ⟨_,h1⟩|rfl
    · exact h1
    · cases h
theorem Wy {t:ax}(h:hG t=some true):∀x∈t.bl.l,x.c_=true->gH x.dy=some true:=by
  have nil:t.bl.l=[]->∀x∈t.bl.l,x.c_=true->gH x.dy=some true:=fun e x b=>by rw [e] at b; cases b
  have fin:∀c:Bool,(some (c&&decide (((t.bl.l.length:Nat):Int)=(0:Int))))=some true->t.bl.l=[]:=fun c h=>by
    simp at h; exact h.2
  unfold hG at h;simp only [Ab.on] at h;rcases fp h with ⟨_,f,_,h⟩|⟨_,h⟩<;>rcases eT h with ⟨_,h⟩|⟨_,h⟩;all_goals first
    | (cases h; done)
    | (cases e:lg t.bU.l with
       | inr y=>rw [e] at h; have:=Ef _ _ e; subst this; cases h
       | inl _ =>
         rw [e] at h;simp only at h;rcases eT h with ⟨_,h⟩|⟨_,h⟩
         · obtain⟨g,_,h⟩:=gA h
           exact nil (fin _ h)
         · rcases eT h with ⟨_,h⟩|⟨_,h⟩
           · rcases fp h with ⟨_,x,_,h⟩|⟨_,h⟩<;>exact nil (fin _ h)
           · rcases eT h with ⟨_,h⟩|⟨_,h⟩
             · rcases fp h with ⟨_,x,_,h⟩|⟨_,h⟩<;>exact nil (fin _ h)
             · rcases eT h with ⟨_,h⟩|⟨_,h⟩
               · rcases fp h with ⟨_,x,_,h⟩|⟨_,h⟩<;>exact nil (fin _ h)
               · rcases eT h with ⟨_,h⟩|⟨_,h⟩
                 · rcases fp h with ⟨_,x,ex,h⟩|⟨_,h⟩
                   · simp at h; rw [h.2] at ex; exact K_ ex
                   · simp at h
                 · cases h)
theorem Wz {α:Type}{R S:α->α->Prop}{l:List α}(h:aW R l l) (hi:∀x∈l,R x x->S x x):aW S l l :=
 aW.kO rfl fun i x y h1 b=>by
  rw [h1] at b; simp only [Option.some.injEq] at b; subst b;obtain⟨y,f,g⟩:=h.get h1;rw [h1] at f; simp only [Option.some.injEq] at f; subst f;exact hi x (List.mem_of_getElem? h1) g
theorem Rl.small:∀(m n:Nat){v:aa},Rl n v v->v.sz<=m->Rl m v v
 | 0,_,v,_,hm=>by have:=v.pos; omega
 | _+1,0,_,h,_=>h.elim
 | m+1,n+1,v,⟨a,b,c,d,e,f,g,i,k⟩,hm=>⟨a,b,c,d,e,f,g,i,Wz k fun x j h=>Rl.small m n h (by have:=aa.jG j; omega)⟩
def nB:Nat:=1048576
theorem WA {v:aa}(h:gH v=some true) (hw:v.wf) (b:v.sz<=1048576):Rl nB v v:=Rl.small _ _ (K0 F0 v true (Wu h) hw b) b
theorem WB {v:aa}(h:mD v=some true) (hw:v.wf) (b:v.sz<=1048576):Rl nB v v:=Rl.small _ _ (K0 F0 v false (Ww h) hw b) b
theorem vU {t:az}(hw:t.wf) (b:t.sz<=1048576):fH t.aK:=⟨hw.2.1.1,by have:=az.pR t; omega⟩
theorem WC {x:Z8}(hl:x.c_=true->gH x.dy=some true) (hw:x.wf) (b:x.sz<=1048576):y9 nB x:=by
 have:=x.bM;exact⟨vU hw.2.1 (by omega),fun h=>WA (hl h) hw.2.2.2.1 (by omega)⟩
theorem WD {t:ax}(hl:∀x∈t.bl.l,x.c_=true->gH x.dy=some true) (hw:t.wf) (g:t.sz<=1048576):nY nB t:=by
 have h1:=t.bM;have i:=Sl.dN (f:=Z8.sz) t.bl (fun x=>x.pos);exact⟨by omega,fun x b=>WC (hl x b) (hw.2.2.2.2.2.2.1.2.2 x b) (by have:=Sl.dV (f:=Z8.sz) b; omega)⟩
theorem WE {d:aq}(h:iA d=some true) (hw:d.wf) (f:d.sz<=1048576):∀s,nY nB (bQ d.aA.l s).1:=by
 intro s;rcases sA d.aA.l s with e|hm
 ·rw [e]; exact⟨by show 0<=_; omega,fun x b=>by cases b⟩
 ·exact WD (Wy (xk h _ hm)) (hw.1.2.2 _ hm) (by have:=aq.vJ hm; omega)
def Gr (o:Option Int) (s:Int) (b:Nat):Prop:=∃r,o=some r/\s<=r/\r<=s+b
theorem Gr.refl (s:Int) (b:Nat):Gr (some s) s b:=⟨s,rfl,by omega,by omega⟩
theorem Gr.bind {o:Option Int}{k:Int->Option Int}{s:Int}{a b c:Nat}(h:Gr o s a) (hc:a+b<=c) (hk:∀r,s<=r->r<=s+a->Gr (k r) r b):Gr (o.bind k) s c:=by
 obtain⟨r,e,h1,f⟩:=h;obtain⟨g,i,j,l⟩:=hk r h1 f;exact⟨g,by rw [e]; exact i,by omega,by omega⟩
theorem Gr.add {x s:Int}{b:Nat}(f:0<=x/\x<=b) (g:0<=s/\s+b<=1099511627776):Gr (bG s x) s b:=⟨s+x,eH (by omega),by omega,by omega⟩
theorem La (a1:Int):∀(l:List Bs) (s:Int),0<=s->s+(l.map Bs.sz).sum<=1073741824->Gr (nh a1 l s) s (l.map Bs.sz).sum
 | [],s,_,_=>Gr.refl _ _
 | a::r,s,h0,h=>by
  simp only [List.map_cons,List.sum_cons] at h ⊢;rw [nh];cases decide (s<=a1) with
  | false=>exact Gr.refl _ _
  | true =>
   simp only [cond_true,Ab.on];have f:Bs.sz a=a.length+1:=rfl;refine Gr.bind (a:=1) (b:=a.length+(r.map Bs.sz).sum) (Gr.add (by omega) (by omega)) (by omega) fun x h1 g=>?_;refine Gr.bind (a:=a.length) (b:=(r.map Bs.sz).sum) (Gr.add (by omega) (by omega)) (by omega) fun y i j=>?_;exact La a1 r y (by omega) (by omega)
theorem WG (a1:Int) (n:Nat):∀v:aa,v.sz<n->v.sz<=1048576->Gr (jU n v a1) 0 v.sz:=by
 induction n with
 | zero=>intro v h; omega
 | succ n g =>
  intro v hn p;have q:=v.bM;have ht:Bs.sz v.aR=v.aR.length+1:=rfl;have hk:Sl.sz Bs.sz v.aF=1+(v.aF.l.map Bs.sz).sum:=rfl;have hi:Sl.sz aa.sz v.av=1+(v.av.l.map aa.sz).sum:=rfl;have hl:∀(l:List aa) (s:Int),(∀x∈l,x.sz<n/\x.sz<=1048576)->0<=s->s+(l.map aa.sz).sum<=1073741824->Gr (lR a1 (jU n) l s) s (l.map aa.sz).sum:=by
   intro l;induction l with
   | nil=>intro s _ _ _; exact Gr.refl _ _
   | cons a r i =>
    intro s f h0 h;simp only [List.map_cons,List.sum_cons] at h ⊢;rw [lR];cases decide (s<=a1) with
    | false=>exact Gr.refl _ _
    | true =>
     simp only [cond_true,Ab.on];obtain⟨w,e,h1,t⟩:=g a (f a (by simp)).1 (f a (by simp)).2;rw [e,oB];refine Gr.bind (a:=a.sz) (b:=(r.map aa.sz).sum) (Gr.add (by omega) (by omega)) (by omega) fun y u B=>?_;exact i y (fun x j=>f x (by simp [j])) (by omega) (by omega)
  rw [jU,eH (by omega),oB];simp only [Ab.on];obtain⟨x,k,C,E⟩:=La a1 v.aF.l (1+(v.aR.length:Int)) (by omega) (by omega);rw [k,oB];obtain⟨y,m,F,G⟩:=hl v.av.l x (fun z o=>by have:=aa.jG o; omega) (by omega) (by omega);rw [m];exact⟨y,rfl,by omega,by omega⟩
theorem EB (a1:Int) (v:aa) (h:v.sz<=1048576):Gr (uH v a1) 0 v.sz:=WG a1 F0 v (by rw [dM]; omega) h
theorem Gr.two {o:Option Int}{k:Int->Option Int}{s:Int}{a b c:Nat}(h:Gr o 0 a) (f:0<=s/\s+a<=1099511627776) (hc:a+b<=c) (hk:∀r,s<=r->r<=s+a->Gr (k r) r b):Gr (o.bind fun x=>(bG s x).bind k) s c:=by
 obtain⟨x,e,h1,g⟩:=h;rw [e,oB];exact Gr.bind (a:=a) (b:=b) (Gr.add (by omega) f) hc hk
theorem Lb (a1:Int) (f:aL):∀(l:List aD) (s:Int),(∀x∈l,x.sz<=1048576)->0<=s->s+(l.map aD.sz).sum<=1073741824->Gr (qu a1 f l s) s (l.map aD.sz).sum
 | [],s,_,_,_=>Gr.refl _ _
 | a::r,s,g,h0,h=>by
  simp only [List.map_cons,List.sum_cons] at h ⊢;have j:=a.bM;have k:=Bs.gF a.ai;have m:=g a (by simp);rw [qu];cases decide (s<=a1) with
  | false=>exact Gr.refl _ _
  | true =>
   simp only [cond_true,Ab.on];refine Gr.bind (a:=1) (b:=a.eU.sz+(r.map aD.sz).sum) (Gr.add (by omega) (by omega)) (by omega) fun x h1 o=>?_;exact Gr.two (b:=(r.map aD.sz).sum) (EB a1 a.eU (by omega)) (by omega) (by omega) fun y p q=>Lb a1 f r y (fun z i=>g z (by simp [i])) (by omega) (by omega)
theorem Lc (a1:Int):∀(l:List aL) (s:Int),(∀x∈l,x.sz<=1048576)->0<=s->s+(l.map aL.sz).sum<=1073741824->Gr (qv a1 l s) s (l.map aL.sz).sum
 | [],s,_,_,_=>Gr.refl _ _
 | a::r,s,g,h0,h=>by
  simp only [List.map_cons,List.sum_cons] at h ⊢;have i:=a.bM;have j:=Bs.gF a.ai;have hi:Sl.sz aD.sz a.aO=1+(a.aO.l.map aD.sz).sum:=rfl;have k:=g a (by simp);rw [qv];cases decide (s<=a1) with
  | false=>exact Gr.refl _ _
  | true =>
   simp only [cond_true,Ab.on];refine Gr.bind (a:=1) (b:=(a.aO.l.map aD.sz).sum+(r.map aL.sz).sum) (Gr.add (by omega) (by omega)) (by omega) fun x h1 m=>?_;exact Gr.bind (b:=(r.map aL.sz).sum) (Lb a1 a a.aO.l x (fun z f=>by have:=aL.JP f; omega) (by omega) (by omega)) (by omega) fun y o p=>Lc a1 r y (fun z f=>g z (by simp [f])) (by omega) (by omega)
theorem y_ (a1:Int) (s:Sl aL) (h:Sl.sz aL.sz s<=1048576):Gr (oC s a1) 0 (Sl.sz aL.sz s):=by
 have hi:Sl.sz aL.sz s=1+(s.l.map aL.sz).sum:=rfl;obtain⟨r,e,h1,g⟩:=Lc a1 s.l 0 (fun x b=>by have:=Sl.dV (f:=aL.sz) b; omega) (by omega) (by omega);unfold oC; rw [e]; exact⟨r,rfl,h1,by omega⟩
theorem Lf (a1:Int):∀(l:List Z8) (s:Int),(∀x∈l,x.sz<=1048576)->0<=s->s+(l.map Z8.sz).sum<=1073741824->Gr (nj a1 l s) s (l.map Z8.sz).sum
 | [],s,_,_,_=>Gr.refl _ _
 | a::r,s,f,h0,h=>by
  simp only [List.map_cons,List.sum_cons] at h ⊢;have i:=a.bM;have j:=Bs.gF a.ai;have hw:=az.pR a.aJ;have k:=f a (by simp);rw [nj];cases decide (s<=a1) with
  | false=>exact Gr.refl _ _
  | true =>
   simp only [cond_true,Ab.on];refine Gr.bind (a:=1) (b:=a.aJ.aK.l.length+a.dy.sz+Sl.sz aL.sz a.ck+(r.map Z8.sz).sum) (Gr.add (by omega) (by omega)) (by omega) fun x h1 m=>?_;refine Gr.bind (a:=a.aJ.aK.l.length) (b:=a.dy.sz+Sl.sz aL.sz a.ck+(r.map Z8.sz).sum) (Gr.add (by omega) (by omega)) (by omega) fun y o p=>?_;refine Gr.two (b:=Sl.sz aL.sz a.ck+(r.map Z8.sz).sum) (EB a1 a.dy (by omega)) (by omega) (by omega) fun z t u=>?_
   exact Gr.two (b:=(r.map Z8.sz).sum) (y_ a1 a.ck (by omega)) (by omega) (by omega) fun q v w=>Lf a1 r q (fun z g=>f z (by simp [g])) (by omega) (by omega)
theorem Lg (a1:Int) (s:Sl Z8) (h:Sl.sz Z8.sz s<=1048576):Gr (qw s a1) 0 (Sl.sz Z8.sz s):=by
 have hi:Sl.sz Z8.sz s=1+(s.l.map Z8.sz).sum:=rfl;obtain⟨r,e,h1,g⟩:=Lf a1 s.l 0 (fun x b=>by have:=Sl.dV (f:=Z8.sz) b; omega) (by omega) (by omega);unfold qw; rw [e]; exact⟨r,rfl,h1,by omega⟩
theorem Lh (a1:Int):∀(l:List Z6) (s:Int),(∀x∈l,x.sz<=1048576)->0<=s->s+(l.map Z6.sz).sum<=1073741824->Gr (nk a1 l s) s (l.map Z6.sz).sum
 | [],s,_,_,_=>Gr.refl _ _
 | a::r,s,f,h0,h=>by
  simp only [List.map_cons,List.sum_cons] at h ⊢;have i:=a.bM;have j:=Bs.gF a.ai;have hw:=az.pR a.aJ;have k:=f a (by simp);rw [nk];cases decide (s<=a1) with
  | false=>exact Gr.refl _ _
  | true =>
   simp only [cond_true,Ab.on];refine Gr.bind (a:=1) (b:=a.aJ.aK.l.length+Sl.sz Z8.sz a.aO+Sl.sz aL.sz a.ck+(r.map Z6.sz).sum) (Gr.add (by omega) (by omega)) (by omega) fun x h1 m=>?_;refine Gr.bind (a:=a.aJ.aK.l.length) (b:=Sl.sz Z8.sz a.aO+Sl.sz aL.sz a.ck+(r.map Z6.sz).sum) (Gr.add (by omega) (by omega)) (by omega) fun y o p=>?_;refine Gr.two (b:=Sl.sz aL.sz a.ck+(r.map Z6.sz).sum) (Lg a1 a.aO (by omega)) (by omega) (by omega) fun z t u=>?_
   exact Gr.two (b:=(r.map Z6.sz).sum) (y_ a1 a.ck (by omega)) (by omega) (by omega) fun q v w=>Lh a1 r q (fun z g=>f z (by simp [g])) (by omega) (by omega)
theorem Li (a1:Int):∀(l:List Z9) (s:Int),(∀x∈l,x.sz<=1048576)->0<=s->s+(l.map Z9.sz).sum<=1073741824->Gr (lS a1 l s) s (l.map Z9.sz).sum
 | [],s,_,_,_=>Gr.refl _ _
 | a::r,s,f,h0,h=>by
  simp only [List.map_cons,List.sum_cons] at h ⊢;have i:=a.bM;have j:=Bs.gF a.ai;have k:=f a (by simp);rw [lS];cases decide (s<=a1) with
  | false=>exact Gr.refl _ _
  | true =>
   simp only [cond_true,Ab.on];refine Gr.bind (a:=1) (b:=Sl.sz aL.sz a.ck+(r.map Z9.sz).sum) (Gr.add (by omega) (by omega)) (by omega) fun x h1 m=>?_;exact Gr.two (b:=(r.map Z9.sz).sum) (y_ a1 a.ck (by omega)) (by omega) (by omega) fun q o p=>Li a1 r q (fun z g=>f z (by simp [g])) (by omega) (by omega)
theorem Lj (a1:Int):∀(l:List ax) (s:Int),(∀x∈l,x.sz<=1048576)->0<=s->s+(l.map ax.sz).sum<=1073741824->Gr (kX a1 l s) s (l.map ax.sz).sum
 | [],s,_,_,_=>Gr.refl _ _
 | a::r,s,g,h0,h=>by
  simp only [List.map_cons,List.sum_cons] at h ⊢;have j:=a.bM;have k:=Bs.gF a.ai;have h1:=Sl.dN (f:=Bs.sz) a.bU (fun x=>Bs.gF x);have m:Sl.sz Z6.sz a.bC=1+(a.bC.l.map Z6.sz).sum:=rfl;have hm:Sl.sz Z9.sz a.bI=1+(a.bI.l.map Z9.sz).sum:=rfl;have o:=g a (by simp);rw [kX];cases decide (s<=a1) with
  | false=>exact Gr.refl _ _
  | true =>
   simp only [cond_true,Ab.on];refine Gr.bind (a:=a.bU.l.length) (b:=Sl.sz aL.sz a.ck+Sl.sz Z8.sz a.bl+(a.bC.l.map Z6.sz).sum+(a.bI.l.map Z9.sz).sum+(r.map ax.sz).sum) (Gr.add (by omega) (by omega)) (by omega) fun x h1 t=>?_;refine Gr.two (b:=Sl.sz Z8.sz a.bl+(a.bC.l.map Z6.sz).sum+(a.bI.l.map Z9.sz).sum+(r.map ax.sz).sum) (y_ a1 a.ck (by omega)) (by omega) (by omega) fun y u v=>?_
   refine Gr.two (b:=(a.bC.l.map Z6.sz).sum+(a.bI.l.map Z9.sz).sum+(r.map ax.sz).sum) (Lg a1 a.bl (by omega)) (by omega) (by omega) fun z w B=>?_;refine Gr.bind (b:=(a.bI.l.map Z9.sz).sum+(r.map ax.sz).sum) (Lh a1 a.bC.l z (fun x g=>by have:=Sl.dV (f:=Z6.sz) g; omega) (by omega) (by omega)) (by omega) fun p C E=>?_;exact Gr.bind (b:=(r.map ax.sz).sum) (Li a1 a.bI.l p (fun x g=>by have:=Sl.dV (f:=Z9.sz) g; omega) (by omega) (by omega)) (by omega) fun q F G=>Lj a1 r q (fun z i=>g z (by simp [i])) (by omega) (by omega)
theorem PF (a1:Int) (d:aq) (h:d.sz<=1048576):∃r,rZ d a1=some r:=by
 have g:=d.bM;have hi:Sl.sz ax.sz d.aA=1+(d.aA.l.map ax.sz).sum:=rfl;have hl:=Sl.dN (f:=ax.sz) d.aA (fun x=>x.pos);obtain⟨r,e,h1,i⟩:=Lj a1 d.aA.l (d.aA.l.length:Int) (fun x b=>by have:=aq.vJ b; omega) (by omega) (by omega);unfold rZ; rw [e]; exact⟨r,rfl⟩
theorem WH:nB+1<=1099511627000:=by unfold nB; omega
def Wv:Nat->aa->Prop
 | 0,_=>False
 | n+1,v=>(-9223372036854775808<=v.aV/\v.aV<=9223372036854775807)/\(v.aF.nl=true->v.aF.l=[])/\v.aF.l.length<=bB/\v.av.l.length<=bB/\∀x∈v.av.l,Wv n x
theorem Wv.mono:∀{n m:Nat}{v:aa},n<=m->Wv n v->Wv m v
 | 0,_,_,_,h=>h.elim
 | n+1,0,_,hn,_=>by omega
 | n+1,m+1,v,hn,⟨a,b,c,d,e⟩=>⟨a,b,c,d,fun x f=>Wv.mono (by omega) (e x f)⟩
theorem Ll:∀(n:Nat){v:aa},Wv n v->∀m,2*n<=m->∃r,iW m v=some r/\Wv n r/\r.an=v.an
 | 0,_,h,_,_=>h.elim
 | n+1,v,⟨w,y,p,q,z⟩,m,hm=>by
  obtain⟨m1,rfl⟩:∃m1,m=m1+1+1:=⟨m-2,by omega⟩;have hl:∀(l:List aa) (s:Sl aa),(∀x∈l,Wv n x)->(∀x∈s.l,Wv n x)->s.l.length+l.length<=bB->∃b:Sl aa,mr (iW m1) l s=some b/\(∀x∈b.l,Wv n x)/\b.l.length=s.l.length+l.length:=by
   intro l;induction l with
   | nil=>intro s _ g _; exact⟨s,rfl,g,rfl⟩
   | cons a t B =>
    intro s hl g u;obtain⟨r,hr,C,-⟩:=Ll n (hl a (.head _)) m1 (by omega);rw [mr];simp only [Ab.on,hr,oB];simp only [List.length_cons] at u;rw [iZ (by unfold bB at u; simp; omega),oB];obtain⟨b,i,j,o⟩:=B ⟨s.nl&&[r].isEmpty,s.l++[r]⟩ (fun x f=>hl x (.tail _ f)) (fun x f=>by
     rcases List.mem_append.1 f with f|f
     ·exact g x f
     ·rw [List.mem_singleton.1 f]; exact C) (by simp; omega)
    exact⟨b,i,j,by rw [o]; simp; omega⟩
  obtain⟨b,i,j,E⟩:=hl v.av.l Sl.nil z (fun _ h=>by cases h) (by simpa [Sl.nil] using q);obtain⟨k,o,F,G⟩:=KP y p;rw [iW,td,i,oB];simp only [Ab.on,oB,o];refine⟨_,rfl,⟨w,G, ?_, ?_,j⟩,rfl⟩
  ·show k.l.length<=_; rw [F]; exact p
  ·show b.l.length<=_; rw [E]; simpa [Sl.nil] using q
theorem Lm {n:Nat}(hn:n<=1073741824){v:aa}(h:Wv n v):∃r,q6 v=some r/\Wv n r/\r.an=v.an:=Ll n h F0 (by rw [dM]; omega)
theorem Wv.of:∀(n:Nat) (v:aa),v.sz<=n->v.sz<=1048576->v.wf->Wv n v
 | 0,v,h,_,_=>by have:=aa.pos v; omega
 | n+1,v,h,g,hw=>by
  have h1:=v.bM;have i:=Sl.dN (f:=aa.sz) v.av (fun x=>aa.pos x);have j:=Sl.dN (f:=Bs.sz) v.aF (fun x=>Bs.gF x);refine⟨?_, ?_, ?_, ?_,fun x b=>?_⟩
  ·have:=aa.OZ hw; unfold i64 at this; omega
  ·exact(aa.O4 hw).1
  ·unfold bB; omega
  ·unfold bB; omega
  ·have k:=Sl.dV (f:=aa.sz) b;exact Wv.of n x (by omega) (by omega) ((aa.O3 hw).2.2 x b)
def fA:aa:=aa.mk (0:Int) (0:Int) ([]:Bs) true ([]) (Sl.nil:Sl Bs)
theorem tZ:Wv 1 fA:=⟨⟨by decide,by decide⟩,fun _=>rfl,by show 0<=_; omega,by show 0<=_; omega,fun _ h=>by cases h⟩
theorem EC {n:Nat}{v:aa}(h:Wv (n+1) v) (hn:n<=1073741824) (s:Bs):∃x b,iE v s=some (x,b)/\((b=true/\Wv n x)\/(b=false/\x=fA)):=by
 unfold iE;simp only [Ab.on];generalize g_ v.aF s=i;cases hc:(((!decide (v.an=(6:Int)))||(decide (i<(0:Int))))||(decide (((v.av.l.length:Nat):Int)<=i)))
 ·simp only [Bool.or_eq_false_iff,decide_eq_false_iff_not] at hc;obtain⟨⟨-,h0⟩,h1⟩:=hc;have hi:i.toNat<v.av.l.length:=by omega
  have f:bV v.av.l i=some (v.av.l[i.toNat]):=by
   unfold bV; rw [if_pos (by omega),List.getElem?_eq_getElem hi]
  obtain⟨r,g,j,-⟩:=Lm hn (h.2.2.2.2 _ (List.getElem_mem hi));rw [cond_false,f,oB,g];exact⟨r,true,rfl,.inl ⟨rfl,j⟩⟩
 ·exact⟨fA,false,rfl,.inr ⟨rfl,rfl⟩⟩
theorem WI {n:Nat}{c:Z0}(h:Wv (n+1) c.dD) (hn:n<=1073741824) (v:aa):∃b,mv c v=some b:=by
 unfold mv;cases ((!decide (v.an=(7:Int)))||(!c.gY))
 ·obtain⟨x,b,e,-⟩:=EC h hn v.aR;rw [cond_false,e]; exact⟨_,rfl⟩
 ·exact⟨_,rfl⟩
def Cq (c c':Z0) (e:Int):Prop:=c'.Fd=c.Fd/\c'.dD=c.dD/\c'.gY=c.gY/\0<=c'.gQ/\(e=0->c'.gQ<=4096)
def Cs (c:Z0):Prop:=0<=c.gQ/\c.gQ<=4096
theorem Cq.trans {a b c:Z0}{e f:Int}(h:Cq a b e) (h':Cq b c f):Cq a c f:=⟨h'.1.trans h.1,h'.2.1.trans h.2.1,h'.2.2.1.trans h.2.2.1,h'.2.2.2.1,h'.2.2.2.2⟩
theorem Ln {c:Z0}(h:Cs c) (l:Int):∃e c',kH c l=some (e,c')/\Cq c c' e/\(e=0->l<=24):=by
 unfold kH;unfold Cs at h;by_cases hl:24<l
 ·rw [dT hl];exact⟨5,c,rfl,⟨rfl,rfl,rfl,h.1,fun h=>by cases h⟩,fun h=>by cases h⟩
 ·rw [dF hl,cond_false,eH (by omega),oB];by_cases b:4096<c.gQ+1
  ·rw [dT b];exact⟨4,_,rfl,⟨rfl,rfl,rfl,by show 0<=c.gQ+1; omega,fun h=>by cases h⟩,fun h=>by cases h⟩
  ·rw [dF b];exact⟨0,_,rfl,⟨rfl,rfl,rfl,by show 0<=c.gQ+1; omega,fun _=>by show c.gQ+1<=4096; omega⟩,fun _=>by omega⟩
theorem Lo:∀(n:Nat) (c:Z0) (v:aa) (l:Int),Cs c -> -1000<=l->(25-l)<(n:Int)->0<n->∃e c',iM n c v l=some (e,c')/\Cq c c' e
 | 0,_,_,_,_,_,_,h=>by omega
 | n+1,c,v,l,hc,h0,hn,_=>by
  obtain⟨e,c1,h1,f,j⟩:=Ln hc l;rw [iM,h1,oB];by_cases he:e=0
  ·have hl:=j he;rw [dT he,Bool.not_true,cond_false];have loop:∀(t:List aa) (b:Z0),Cs b->∃o,lC l (iM n) t b=some o/\(match o with|Sum.inl c'=>Cq b c' 0|Sum.inr p=>Cq b p.2 p.1):=by
    intro t;induction t with
    | nil=>intro b g; exact⟨_,rfl,⟨rfl,rfl,rfl,g.1,fun _=>g.2⟩⟩
    | cons x r k =>
     intro b g;rw [lC];simp only [Ab.on];rw [eH (by omega),oB];obtain⟨m,c2,g1,g2⟩:=Lo n b x (l+1) g (by omega) (by omega) (by omega);rw [g1,oB];by_cases i:m=0
     ·rw [dT i,Bool.not_true,cond_false];obtain⟨o,o1,o2⟩:=k c2 ⟨g2.2.2.2.1,g2.2.2.2.2 i⟩;refine⟨o,o1, ?_⟩;cases o with
      | inl c'=>exact g2.trans o2
      | inr p=>exact g2.trans o2
     ·rw [dF i];exact⟨_,rfl,g2⟩
   obtain⟨o,o1,o2⟩:=loop v.av.l c1 ⟨f.2.2.2.1,f.2.2.2.2 he⟩;rw [o1,oB];cases o with
   | inl c'=>exact⟨0,c',rfl,f.trans o2⟩
   | inr p=>exact⟨p.1,p.2,rfl,f.trans o2⟩
  ·rw [dF he];exact⟨e,c1,rfl,f⟩
theorem WJ {n:Int}(h0 : -9223372036854775808<=n) (h1:n<=9223372036854775807):∃r,nR n=some r:=by
 unfold nR yb tg;rw [if_pos ⟨h0,h1,by have:=KV h0 h1; unfold eF; omega⟩];exact⟨_,rfl⟩
theorem Wv.kind {n:Nat}{v:aa}(h:Wv (n+1) v) (k:Int):Wv (n+1) ⟨k,v.aV,v.aR,v.av.nl,v.av.l,v.aF⟩:=h
theorem Wv.text (n:Nat) (s:Bs):Wv (n+1) (th s):=⟨⟨by show (-9223372036854775808:Int)<=0; decide,by show (0:Int)<=9223372036854775807; decide⟩,fun _=>rfl,by show 0<=_; omega,by show 0<=_; omega,fun _ h=>by cases h⟩
theorem WK {n:Nat}{v:aa}(h:Wv (n+1) v) (c:Z0) (nm:Bs):∃x e,kI c nm v=some (x,e)/\Wv (n+1) x:=by
 have z:Wv (n+1) fA:=tZ.mono (by omega);have fin:∀(b:Bool) (x:aa),Wv (n+1) x->∃y e,(bif (!b) then(some (fA,(23:Int))) else(some (x,(0:Int))))=some (y,e)/\Wv (n+1) y:=by
  intro b x f;cases b
  ·exact⟨fA,23,rfl,z⟩
  ·exact⟨x,0,rfl,f⟩
 unfold kI;simp only [Ab.on];cases (nm==([73,110,116]:Bs))
 ·cases (nm==([83,116,114,105,110,103]:Bs))
  ·cases (nm==([66,111,111,108,101,97,110]:Bs))
   ·cases (nm==([73,68]:Bs))
    ·simp only [cond_false];have last:∀(w:aa) (b:Bool),Wv (n+1) w->∃y e,(bif (!b) then(some (fA,(23:Int))) else(some (w,(0:Int))))=some (y,e)/\Wv (n+1) y:=fun w b hw=>fin b w hw;cases (decide (v.an=(3:Int))&&(!c.gY))
     ·exact last v _ h
     ·exact last _ _ (h.kind 4)
    ·simp only [cond_false,cond_true];cases decide (v.an=(2:Int))
     ·exact fin _ v h
     ·obtain⟨r,hr⟩:=WJ h.1.1 h.1.2;rw [cond_true,hr,oB,oB];exact fin _ _ (Wv.text n r)
   ·exact fin _ v h
  ·exact fin _ v h
 ·exact fin _ v h
def i_ (N:Nat) (l:Int):Nat:=N+(27-l).toNat
theorem Lp (N:Nat){l:Int}(h:l<=24):i_ N l=i_ N (l+1)+1:=by unfold i_; omega
def kM (N:Nat) (d:aq) (c:Z0):Prop:=c.Fd=d/\Wv N c.dD/\Cs c
theorem kM.step {N:Nat}{d:aq}{c c':Z0}(h:kM N d c) (hq:Cq c c' 0):kM N d c' :=
 ⟨hq.1.trans h.1,by rw [hq.2.1]; exact h.2.1,hq.2.2.2.1,hq.2.2.2.2 rfl⟩
def ja (N:Nat) (l:Int) (c:Z0) (o:Option (aa×Int×Z0)):Prop:=∃x e c',o=some (x,e,c')/\Cq c c' e/\Wv (i_ N l) x
def t_ (N:Nat) (d:aq) (n:Nat) (l:Int):Prop:=∀c t v,kM N d c->fH t.aK->Wv N v->ja N l c (dO n c t v l)
theorem n9 {N:Nat}{l:Int}(h:1<=N):Wv (i_ N l) fA:=tZ.mono (by unfold i_; omega)
theorem WL {N:Nat}{d:aq}{n:Nat}{l:Int}(L:1<=N) (h0 : -1000<=l) (hl:l<=24) (u:t_ N d n (l+1)) (c:Z0) (t:az) (v:aa) (hc:kM N d c) (ht:fH t.aK) (hv:Wv N v):ja N l c (lD (n+1) c t v l):=by
 obtain⟨g,rfl⟩:∃k,N=k+1:=⟨N-1,by omega⟩;have loop:∀(r:List aa) (b:Z0) (y:aa),(∀x∈r,Wv (g+1) x)->kM (g+1) d b->(∀x∈y.av.l,Wv (i_ (g+1) (l+1)) x)->y.av.l.length+r.length<=bB ->
   ∃o,kJ t l (dO n) r b y=some o/\(match o with
    | Sum.inl p=>Cq b p.1 0/\p.2.aV=y.aV/\p.2.aF=y.aF/\(∀x∈p.2.av.l,Wv (i_ (g+1) (l+1)) x)/\p.2.av.l.length<=bB
    | Sum.inr p=>Cq b p.2.2 p.2.1/\p.1=fA):=by
  intro r;induction r with
  | nil=>intro b y _ i m hlen; exact⟨_,rfl,⟨rfl,rfl,rfl,i.2.2.1,fun _=>i.2.2.2⟩,rfl,rfl,m,by simpa using hlen⟩
  | cons a r w =>
   intro b y hr i m hlen;simp only [List.length_cons] at hlen;rw [kJ];simp only [Ab.on];rw [eH (by omega),oB];obtain⟨x,e,B,C,j,E⟩:=u b t a i ht (hr a (.head _));rw [C,oB];by_cases he:e=0
   ·subst he;have F:aZ 80 y.av (⟨false,[x]⟩:Sl aa)=some ⟨y.av.nl&&List.isEmpty [x],y.av.l++[x]⟩:=iZ (by unfold bB at hlen; simp; omega);simp only [decide_true,Bool.not_true,cond_false];rw [F,oB];obtain⟨o,o1,o2⟩:=w B ⟨y.an,y.aV,y.aR,y.av.nl&&List.isEmpty [x],y.av.l++[x],y.aF⟩ (fun z f=>hr z (.tail _ f)) (i.step j) (fun z f=>by
     rcases List.mem_append.1 f with f|f
     ·exact m z f
     ·rw [List.mem_singleton.1 f]; exact E) (by show (y.av.l++[x]).length+r.length<=bB; simp; omega)
    refine⟨o,o1, ?_⟩;cases o with
    | inl p=>exact⟨j.trans o2.1,o2.2.1,o2.2.2.1,o2.2.2.2.1,o2.2.2.2.2⟩
    | inr p=>exact⟨j.trans o2.1,o2.2⟩
   ·rw [show (!decide (e=0))=true by simpa using he,cond_true];exact⟨_,rfl,j,rfl⟩
 rw [lD];simp only [Ab.on];have G:∀x∈(bif (!decide (v.an=(5:Int))) then((⟨false,[v]⟩:Sl aa)) else(v.av)).l,Wv (g+1) x:=by
  cases (!decide (v.an=(5:Int)))
  ·intro x q; exact(hv.2.2.2.2 x q).mono (by omega)
  ·intro x q; rw [List.mem_singleton.1 q]; exact hv
 have hlen:(bif (!decide (v.an=(5:Int))) then((⟨false,[v]⟩:Sl aa)) else(v.av)).l.length<=bB:=by
  cases (!decide (v.an=(5:Int)))
  ·exact hv.2.2.2.1
  ·show 1<=bB; unfold bB; omega
 obtain⟨o,o1,o2⟩:=loop _ c (aa.mk (5:Int) (0:Int) ([]:Bs) true ([]) (Sl.nil:Sl Bs)) G hc (fun _ h=>by cases h) (by show 0+_<=bB; rw [Nat.zero_add]; exact hlen);rw [o1,oB];cases o with
 | inl p =>
  obtain⟨H,I,s,J,K⟩:=o2;refine⟨p.2,0,p.1,rfl,H, ?_⟩;rw [Lp (g+1) hl];refine⟨by rw [I]; exact⟨by show (-9223372036854775808:Int)<=0; decide,by show (0:Int)<=9223372036854775807; decide⟩,by rw [s]; exact fun _=>rfl,by rw [s]; show 0<=bB; omega,K,J⟩
 | inr p =>
  refine⟨p.1,p.2.1,p.2.2,rfl,o2.1, ?_⟩;rw [o2.2]; exact n9 (by omega)
def za (n:Nat) (a1:az) (a3:Int) (l:Z0) (f:aa):Option (aa×Int×Z0) :=
 (kH l a3).bind fun b=>bif (!decide (b.1=(0:Int))) then(some (fA,b.1,b.2)) else(bif (decide (f.an=(0:Int))) then(bif gq a1 then(some (fA,(23:Int),b.2)) else(some (fA,(0:Int),b.2))) else((pF a1).bind fun j=>bif j.2 then(((lD n) b.2 j.1 f a3).bind fun g=>some (g.1,g.2.1,g.2.2)) else(bif (((eL b.2.Fd a1.ai).2&&(!(bif (eL b.2.Fd a1.ai).2 then gJ a1.ai else false)))&&(decide ((eL b.2.Fd a1.ai).1.an=(5:Int)))) then(((lE n) b.2 (eL b.2.Fd a1.ai).1 f a3).bind fun i=>some (i.1,i.2.1,i.2.2)) else((kI b.2 a1.ai f).bind fun k=>some (k.1,k.2,b.2)))))
theorem WM (n:Nat) (a0:Z0) (a1:az) (a2:aa) (a3:Int):dO (n+1) a0 a1 a2 a3 =
  bif (!jE a0.Fd a1.ai) then(some (fA,(10:Int),a0)) else(bif ((decide (a2.an=(7:Int)))&&a0.gY) then((iE a0.dD a2.aR).bind fun b=>bif (!decide (b.1.an=(0:Int))) then((tf a0 b.1 a3).bind fun f=>bif (!decide (f.1=(0:Int))) then(some (fA,f.1,f.2)) else(some (b.1,(0:Int),f.2))) else(za n a1 a3 a0 b.1)) else(za n a1 a3 a0 a2)):=by
 rw [dO]; rfl
def Lq (N:Nat) (d:aq) (n:Nat) (l:Int):Prop:=∀c t v,kM N d c->fH t.aK->Wv N v->ja N l c (lD n c t v l)
def Lr (N:Nat) (d:aq) (n:Nat) (l:Int):Prop:=∀c nm v,kM N d c->Wv N v->ja N l c (lE n c (eL d nm).1 v l)
theorem ja.eta {N:Nat}{l:Int}{c:Z0}{o:Option (aa×Int×Z0)}(h:ja N l c o):ja N l c (o.bind fun x=>some (x.1,x.2.1,x.2.2)):=by
 obtain⟨x,e,c',h1,b,f⟩:=h;exact⟨x,e,c',by rw [h1]; rfl,b,f⟩
theorem ja.after {N:Nat}{l:Int}{c c1:Z0}{o:Option (aa×Int×Z0)}(h:Cq c c1 0) (b:ja N l c1 o):ja N l c o:=by
 obtain⟨x,e,c',a1,a2,a3⟩:=b;exact⟨x,e,c',a1,h.trans a2,a3⟩
theorem Ls {N:Nat}{d:aq}{n:Nat}{l:Int}(f:1<=N) (i:l<=24->Lq N d n l) (hO:l<=24->Lr N d n l) (c:Z0) (t:az) (v:aa) (hc:kM N d c) (ht:fH t.aK) (hv:Wv N v):ja N l c (za n t l c v):=by
 obtain⟨e,c1,h1,b,j⟩:=Ln hc.2.2 l;unfold za;rw [h1,oB];by_cases he:e=0
 ·subst he;have hl:=j rfl;have g:=hc.step b;simp only [decide_true,Bool.not_true,cond_false];cases decide (v.an=0)
  ·rw [cond_false,Ku ht,oB];cases iY (eW t.aK).l
   ·rw [cond_false];simp only [cond_false];rw [g.1];generalize (((eL d t.ai).2&&(!(bif (eL d t.ai).2 then gJ t.ai else false)))&&(decide ((eL d t.ai).1.an=(5:Int))))=w;cases w
    ·obtain⟨m,rfl⟩:∃k,N=k+1:=⟨N-1,by omega⟩;obtain⟨x,e,g1,g2⟩:=WK hv c1 t.ai;rw [cond_false,g1,oB];exact⟨x,e,c1,rfl,⟨b.1,b.2.1,b.2.2.1,b.2.2.2.1,fun _=>b.2.2.2.2 rfl⟩,g2.mono (by unfold i_; omega)⟩
    ·exact(hO hl c1 t.ai v g hv).eta.after b
   ·exact(i hl c1 (yU t) v g (Kq ht) hv).eta.after b
  ·rw [cond_true];cases gq t
   ·exact⟨fA,0,c1,rfl,b,n9 f⟩
   ·exact⟨fA,23,c1,rfl,⟨b.1,b.2.1,b.2.2.1,b.2.2.2.1,fun h=>by cases h⟩,n9 f⟩
 ·rw [show (!decide (e=0))=true by simpa using he,cond_true];exact⟨fA,e,c1,rfl,b,n9 f⟩
theorem Lt {N:Nat}{d:aq}{n:Nat}{l:Int}(f:1<=N) (r:N<=1073741824) (h0 : -1000<=l) (g:l<=24->Lq N d n l) (hO:l<=24->Lr N d n l):t_ N d (n+1) l:=by
 intro c t v hc ht hv;rw [WM];cases (!jE c.Fd t.ai)
 ·rw [cond_false];cases ((decide (v.an=(7:Int)))&&c.gY)
  ·exact Ls f g hO c t v hc ht hv
  ·obtain⟨m,rfl⟩:∃k,N=k+1:=⟨N-1,by omega⟩;obtain⟨x,b,o,p⟩:=EC hc.2.1 (by omega) v.aR;have i:Wv (m+1) x:=by
    rcases p with ⟨-,h⟩|⟨-,h⟩
    ·exact h.mono (by omega)
    ·rw [h]; exact tZ.mono (by omega)
   rw [cond_true,o,oB];cases (!decide (x.an=0))
   ·exact Ls f g hO c t x hc ht i
   ·obtain⟨e,c',q,j⟩:=Lo F0 c x l hc.2.2 h0 (by rw [dM]; omega) (by rw [dM]; omega);rw [cond_true,show tf c x l=some (e,c') from q,oB];by_cases he:e=0
    ·subst he;simp only [decide_true,Bool.not_true,cond_false];exact⟨x,0,c',rfl,j,i.mono (by unfold i_; omega)⟩
    ·rw [show (!decide (e=0))=true by simpa using he,cond_true];exact⟨fA,e,c',rfl,j,n9 f⟩
 ·exact⟨fA,10,c,rfl,⟨rfl,rfl,rfl,hc.2.2.1,fun h=>by cases h⟩,n9 f⟩
def pW (b:aa) (nm:Bs) (j:Z0->aa->Option (((Z0×aa)) ⊕ ((aa×Int×Z0)))) (f:Int) (g:Z0) (k:aa):Option (((Z0×aa)) ⊕ ((aa×Int×Z0))) :=
 bif (!decide (f=(0:Int))) then(some (Sum.inr (fA,f,g))) else((aZ 16 b.aF (⟨false,[nm]⟩:Sl Bs)).bind fun m=>(aZ 80 b.av (⟨false,[k]⟩:Sl aa)).bind fun i=>j g (aa.mk b.an b.aV b.aR i.nl i.l m))
theorem WN (a1:ax) (a2:aa) (a3:Int) (b:Z0->Z8->Int->Option (aa×Int×Z0)) (f:Z0->az->aa->Int->Option (aa×Int×Z0)) (h:Z8) (r:List Z8) (i:Nat) (c:Z0) (x:aa) :
  ek a1 a2 a3 f b (h::r) i c x=bif (iV (⟨a1.bl.nl,a1.bl.l.take i⟩:Sl Z8) h.ai).2 then(ek a1 a2 a3 f b r (i+1) c x) else
   ((iE a2 h.ai).bind fun g=>aN (g.2) (mv c g.1) false fun m =>
    bif (g.2&&(!m)) then((bG a3 (1:Int)).bind fun o=>(f c h.aJ g.1 o).bind fun j=>pW x h.ai (ek a1 a2 a3 f b r (i+1)) j.2.1 j.2.2 j.1)
    else(bif h.c_ then((bG a3 (1:Int)).bind fun p=>(b c h p).bind fun k=>pW x h.ai (ek a1 a2 a3 f b r (i+1)) k.2.1 k.2.2 k.1)
    else(bif gq h.aJ then(pW x h.ai (ek a1 a2 a3 f b r (i+1)) (22:Int) c aa.zero) else(ek a1 a2 a3 f b r (i+1) c x)))):=by
 rw [ek]; rfl
def ua (N:Nat) (h:Z8):Prop:=fH h.aJ.aK/\Wv N h.dy
def ED (N:Nat) (d:aq) (n:Nat) (l:Int):Prop:=∀c h,kM N d c->ua N h->ja N l c (fm n c h l)
def oa (N:Nat) (l:Int) (b:Z0) (o:Option (((Z0×aa)) ⊕ ((aa×Int×Z0)))):Prop:=∃z,o=some z/\(match z with
 | Sum.inl p=>Cq b p.1 0/\p.2.aV=0/\(p.2.aF.nl=true->p.2.aF.l=[])/\p.2.aF.l.length<=2097152/\(∀x∈p.2.av.l,Wv (i_ N (l+1)) x)/\p.2.av.l.length<=2097152
 | Sum.inr p=>Cq b p.2.2 p.2.1/\p.1=fA)
theorem oa.after {N:Nat}{l:Int}{a b:Z0}{o} (h:Cq a b 0) (g:oa N l b o):oa N l a o:=by
 obtain⟨z,e,f⟩:=g;refine⟨z,e, ?_⟩;cases z with
 | inl p=>exact⟨h.trans f.1,f.2⟩
 | inr p=>exact⟨h.trans f.1,f.2⟩
theorem EE {N:Nat}{d:aq}{n:Nat}{l:Int}(k:N<=1073741824) (h0 : -1000<=l) (hl:l<=24) (q:t_ (N+1) d n (l+1)) (s:ED (N+1) d n (l+1)) (a:ax) (v:aa) (hv:Wv (N+1) v):∀(r:List Z8) (i:Nat) (c:Z0) (x:aa),(∀h∈r,ua (N+1) h)->kM (N+1) d c->x.aV=0->(x.aF.nl=true->x.aF.l=[])->x.aF.l.length+r.length<=2097152->(∀y∈x.av.l,Wv (i_ (N+1) (l+1)) y)->x.av.l.length+r.length<=2097152->oa (N+1) l c (ek a v l (dO n) (fm n) r i c x)
 | [],i,c,x,_,hc,h1,t,u,p,w=>⟨_,rfl,⟨rfl,rfl,rfl,hc.2.2.1,fun _=>hc.2.2.2⟩,h1,t,by simpa using u,p,by simpa using w⟩
 | h::r,i,c,x,hr,hc,h1,t,u,p,w=>by
  simp only [List.length_cons] at u w;have hh:=hr h (.head _);have E:∀z∈r,ua (N+1) z:=fun z f=>hr z (.tail _ f);have skip:oa (N+1) l c (ek a v l (dO n) (fm n) r (i+1) c x):=EE k h0 hl q s a v hv r (i+1) c x E hc h1 t (by omega) p (by omega);have fin:∀(o:Option (aa×Int×Z0)),ja (N+1) (l+1) c o->oa (N+1) l c (o.bind fun g=>pW x h.ai (ek a v l (dO n) (fm n) r (i+1)) g.2.1 g.2.2 g.1):=by
   intro o F;obtain⟨y,e,c1,B,j,G⟩:=F;rw [B,oB];unfold pW;by_cases he:e=0
   ·subst he;have k1:aZ 16 x.aF (⟨false,[h.ai]⟩:Sl Bs)=some ⟨x.aF.nl&&List.isEmpty [h.ai],x.aF.l++[h.ai]⟩:=iw (by decide) (by simp; omega);have k2:aZ 80 x.av (⟨false,[y]⟩:Sl aa)=some ⟨x.av.nl&&List.isEmpty [y],x.av.l++[y]⟩:=iZ (by simp; omega);simp only [decide_true,Bool.not_true,cond_false];rw [k1,oB,k2,oB];refine oa.after j (EE k h0 hl q s a v hv r (i+1) c1 _ E (hc.step j) h1 (fun H=>absurd H (by show ¬((x.aF.nl&&false)=true); simp)) (by show (x.aF.l++[h.ai]).length+r.length<=2097152; simp; omega) (fun z f=>?_) (by show (x.av.l++[y]).length+r.length<=2097152; simp; omega))
    rcases List.mem_append.1 f with f|f
    ·exact p z f
    ·rw [List.mem_singleton.1 f]; exact G
   ·rw [show (!decide (e=0))=true by simpa using he,cond_true];exact⟨_,rfl,j,rfl⟩
  rw [WN];cases (iV (⟨a.bl.nl,a.bl.l.take i⟩:Sl Z8) h.ai).2
  ·obtain⟨y,b,B,j⟩:=EC hv k h.ai;obtain⟨m,hm⟩:=WI hc.2.1 k y;have I:Wv (N+1) y:=by
    rcases j with ⟨-,h⟩|⟨-,h⟩
    ·exact h.mono (by omega)
    ·rw [h]; exact tZ.mono (by omega)
   have rest:oa (N+1) l c (bif h.c_ then((bG l (1:Int)).bind fun J=>(fm n c h J).bind fun C=>pW x h.ai (ek a v l (dO n) (fm n) r (i+1)) C.2.1 C.2.2 C.1)
    else(bif gq h.aJ then(pW x h.ai (ek a v l (dO n) (fm n) r (i+1)) (22:Int) c aa.zero) else(ek a v l (dO n) (fm n) r (i+1) c x))):=by
    cases h.c_
    ·cases gq h.aJ
     ·exact skip
     ·exact⟨_,rfl,⟨rfl,rfl,rfl,hc.2.2.1,fun h=>by cases h⟩,rfl⟩
    ·rw [cond_true,eH (by omega),oB];exact fin _ (s c h hc hh)
   have go:oa (N+1) l c ((bG l (1:Int)).bind fun K=>(dO n c h.aJ y K).bind fun g=>pW x h.ai (ek a v l (dO n) (fm n) r (i+1)) g.2.1 g.2.2 g.1):=by
    rw [eH (by omega),oB];exact fin _ (q c h.aJ y hc hh.1 I)
   rw [cond_false,B,oB];cases b
   ·exact rest
   ·simp only [aN,if_true,hm,oB,Bool.true_and];cases m
    ·exact go
    ·exact rest
  ·exact skip
theorem Lu (c:Z0) (a:ax):∀l:List Bs,kK c a l=Sum.inl ()\/kK c a l=Sum.inr (fA,22,c)
 | []=>.inl rfl
 | k::l=>by
  rw [kK];simp only [Ab.on];cases (iV a.bl k).2
  ·exact .inr rfl
  ·exact Lu c a l
theorem WO {N:Nat}{d:aq}{n:Nat}{l:Int}(g:N<=1073741824) (h0 : -1000<=l) (hl:l<=24) (i:t_ (N+1) d n (l+1)) (j:ED (N+1) d n (l+1)) (a:ax) (b:(∀h∈a.bl.l,ua (N+1) h)/\a.bl.l.length<=2097152) (c:Z0) (v:aa) (hc:kM (N+1) d c) (hv:Wv (N+1) v):ja (N+1) l c (lE (n+1) c a v l):=by
 have same:∀e:Int,e≠0->Cq c c e:=fun e he=>⟨rfl,rfl,rfl,hc.2.2.1,fun h=>absurd h he⟩;rw [lE];cases (!decide (v.an=(6:Int)))
 ·rw [cond_false];simp only [Ab.on];rcases Lu c a v.aF.l with h|h
  ·rw [h];obtain⟨z,e,f⟩:=EE g h0 hl i j a v hv a.bl.l 0 c (aa.mk (6:Int) (0:Int) ([]:Bs) true ([]) (Sl.nil:Sl Bs)) b.1 hc rfl (fun _=>rfl) (by show 0+_<=_; rw [Nat.zero_add]; exact b.2) (fun _ h=>by cases h) (by show 0+_<=_; rw [Nat.zero_add]; exact b.2);simp only;rw [e,oB];cases z with
   | inl p =>
    obtain⟨k,m,o,r,q,s⟩:=f;refine⟨p.2,0,p.1,rfl,k, ?_⟩;rw [Lp (N+1) hl];exact⟨by rw [m]; exact⟨by decide,by decide⟩,o,by unfold bB; omega,by unfold bB; omega,q⟩
   | inr p =>
    refine⟨p.1,p.2.1,p.2.2,rfl,f.1, ?_⟩;rw [f.2]; exact n9 (by omega)
  ·rw [h];exact⟨fA,22,c,rfl,same 22 (by decide),n9 (by omega)⟩
 ·exact⟨fA,23,c,rfl,same 23 (by decide),n9 (by omega)⟩
theorem WQ {N:Nat}{d:aq}{n:Nat}{l:Int}(f:t_ (N+1) d n l):ED (N+1) d (n+1) l:=by
 intro c h hc hh;rw [fm];obtain⟨x,e,c1,h1,b,g⟩:=f ⟨c.Fd,fA,true,c.gQ⟩ h.aJ h.dy ⟨hc.1,tZ.mono (by omega),hc.2.2⟩ hh.1 hh.2;rw [show (aa.mk (0:Int) (0:Int) ([]:Bs) true ([]) (Sl.nil:Sl Bs))=fA from rfl,h1,oB];simp only [Ab.on];exact⟨x,e,_,rfl,⟨b.1,rfl,rfl,b.2.2.2.1,b.2.2.2.2⟩,g⟩
def Lv (N:Nat) (d:aq):Prop:=∀nm,(∀h∈(eL d nm).1.bl.l,ua N h)/\(eL d nm).1.bl.l.length<=2097152
theorem EF {N:Nat}{d:aq}(f:N<=1073741823) (b:Lv (N+1) d):∀(k:Nat) (l:Int),25-l<=(k:Int) -> -1000<=l->∀n,3*k+1<=n->t_ (N+1) d n l
 | 0,l,hk,h0,n,hn=>by
  obtain⟨m,rfl⟩:∃m,n=m+1:=⟨n-1,by omega⟩;exact Lt (by omega) (by omega) h0 (fun h=>by omega) (fun h=>by omega)
 | k+1,l,hk,h0,n,hn=>by
  obtain⟨m,rfl⟩:∃m,n=m+1+1+1:=⟨n-3,by omega⟩;have g:=EF f b k (l+1) (by omega) (by omega) (m+1) (by omega);have i:=EF f b k (l+1) (by omega) (by omega) m (by omega);refine Lt (by omega) (by omega) h0 (fun hl=>?_) (fun hl=>?_)
  ·intro c t v hc ht hv;exact WL (by omega) h0 hl g c t v hc ht hv
  ·intro c nm v hc hv;exact WO (by omega) h0 hl g (WQ i) _ (b nm) c v hc hv
def VW (v:aa):Prop:=∃m,m<=1048576/\Wv m v
theorem VW.of {v:aa}(h:v.sz<=1048576) (hw:v.wf):VW v:=⟨v.sz,h,Wv.of _ v (Nat.le_refl _) h hw⟩
theorem VW.item {v x:aa}(h:VW v) (b:x∈v.av.l):VW x:=by
 obtain⟨m,hm,h⟩:=h;cases m with
 | zero=>exact h.elim
 | succ m=>exact⟨m,by omega,h.2.2.2.2 x b⟩
theorem VW.int {v:aa}(h:VW v) : -9223372036854775808<=v.aV/\v.aV<=9223372036854775807:=by
 obtain⟨m,hm,h⟩:=h;cases m with
 | zero=>exact h.elim
 | succ m=>exact h.1
theorem VW.len {v:aa}(h:VW v):v.av.l.length<=bB:=by
 obtain⟨m,hm,h⟩:=h;cases m with
 | zero=>exact h.elim
 | succ m=>exact h.2.2.2.1
def ii:aa:=aa.mk (0:Int) (0:Int) ([]:Bs) true ([]) (Sl.nil:Sl Bs)
theorem VW.nil:VW ii:=⟨1,by decide,⟨by decide,by decide⟩,fun _=>rfl,Nat.zero_le _,Nat.zero_le _,fun _ h=>(by cases h)⟩
theorem Lw:∀(n:Nat){v:aa},Wv n v->∀m,2*n<=m->∃r,iU m v=some r/\Wv n r
 | 0,_,h,_,_=>h.elim
 | n+1,v,⟨q,C,k,o,u⟩,m,hm=>by
  obtain⟨m1,rfl⟩:∃m1,m=m1+1+1:=⟨m-2,by omega⟩;have hl:∀(l:List aa) (s:Sl aa),(∀x∈l,Wv n x)->(∀x∈s.l,Wv n x)->s.l.length+l.length<=bB->∃b:Sl aa,l8 (iU m1) l s=some b/\(∀x∈b.l,Wv n x)/\b.l.length=s.l.length+l.length:=by
   intro l;induction l with
   | nil=>intro s _ g _; exact⟨s,rfl,g,rfl⟩
   | cons a t w =>
    intro s hl g p;obtain⟨r,hr,y⟩:=Lw n (hl a (.head _)) m1 (by omega);rw [l8];simp only [Ab.on,hr,oB];simp only [List.length_cons] at p;rw [iZ (by unfold bB at p; simp; omega),oB];obtain⟨b,i,j,z⟩:=w ⟨s.nl&&[r].isEmpty,s.l++[r]⟩ (fun x f=>hl x (.tail _ f)) (fun x f=>by
     rcases List.mem_append.1 f with f|f
     ·exact g x f
     ·rw [List.mem_singleton.1 f]; exact y) (by simp; omega)
    exact⟨b,i,j,by rw [z]; simp; omega⟩
  obtain⟨b,i,j,B⟩:=hl v.av.l Sl.nil u (fun _ h=>by cases h) (by simpa [Sl.nil] using o);rw [iU,sS,i,oB];simp only [Ab.on,oB];rw [iw (by decide) (by unfold bB at k; simp; omega),oB];refine⟨_,rfl,⟨q,fun e=>Bool.noConfusion (show false=true from e), ?_, ?_,j⟩⟩
  ·show ([]++v.aF.l).length<=_; rw [List.nil_append]; exact k
  ·show b.l.length<=_; rw [B]; simpa [Sl.nil] using o
theorem WR {v:aa}(h:VW v):∃r,uY v=some r/\VW r:=by
 obtain⟨m,hm,h⟩:=h;obtain⟨r,e,w⟩:=Lw m h F0 (by rw [dM]; omega);exact⟨r,e,m,hm,w⟩
theorem WS {v:aa}(h:VW v) (s:Bs):∃x b,jC v s=some (x,b)/\VW x:=by
 have loop:∀(l:List Bs) (i:Nat),∃o,jB v s l i=some o/\(match o with|Sum.inl _=>True|Sum.inr p=>VW p.1):=by
  intro l;induction l with
  | nil=>intro i; exact⟨_,rfl,trivial⟩
  | cons a r f =>
   intro i;rw [jB];simp only [Ab.on];cases a==s
   ·exact f (i+1)
   ·rw [cond_true];by_cases hi:v.av.l.length<=i
    ·rw [dT (by omega:((v.av.l.length:Nat):Int)<=((i:Nat):Int)),cond_true];exact⟨_,rfl,VW.nil⟩
    ·have hi:i<v.av.l.length:=by omega
     obtain⟨r,e,w⟩:=WR (h.item (List.getElem_mem hi));rw [dF (by omega:¬((v.av.l.length:Nat):Int)<=((i:Nat):Int)),cond_false,List.getElem?_eq_getElem hi,oB,e,oB];exact⟨_,rfl,w⟩
 unfold jC;cases (!decide (v.an=(6:Int)))
 ·obtain⟨o,e,w⟩:=loop v.aF.l 0;rw [cond_false,e,oB];cases o with
  | inl u=>exact⟨_,_,rfl,VW.nil⟩
  | inr p=>exact⟨p.1,p.2,rfl,w⟩
 ·exact⟨_,_,rfl,VW.nil⟩
theorem EG (s:Bs):jC ii s=some (ii,false):=rfl
theorem Lx (l:Sl Z8){i:Nat}(hi:i<l.l.length):∀(n k:Nat),k<=i->i-k<n->i<=1048576->∃b,nL l (i:Int) n (k:Int)=some b
 | 0,_,_,h,_=>by omega
 | n+1,k,h1,o,f=>by
  rw [nL];by_cases hk:k<i
  ·have g:bV l.l (k:Int)=some l.l[k]:=by unfold bV; rw [if_pos (by omega),Int.toNat_natCast,List.getElem?_eq_getElem (by omega)]
   have j:bV l.l (i:Int)=some l.l[i]:=by unfold bV; rw [if_pos (by omega),Int.toNat_natCast,List.getElem?_eq_getElem hi]
   have m:bG (k:Int) 1=some ((k+1:Nat):Int):=by rw [eH (by omega)]; rfl
   rw [dT (by omega:((k:Nat):Int)<((i:Nat):Int)),cond_true,g,oB,j,oB];cases l.l[k].ai==l.l[i].ai
   ·rw [cond_false,m,oB]; exact Lx l hi n (k+1) (by omega) (by omega) f
   ·exact⟨true,rfl⟩
  ·rw [dF (by omega:¬((k:Nat):Int)<((i:Nat):Int)),cond_false];unfold xI;exact⟨_,rfl⟩
theorem WT (l:Sl Z8){i:Nat}(hi:i<l.l.length) (h:l.l.length<=1048576):∃b,qL l (i:Int)=some b:=by
 unfold qL sU;exact Lx l hi F0 0 (Nat.zero_le _) (by rw [dM]; omega) (by omega)
def Wk (d:aq) (c:Z4):Prop:=c.Fd=d/\c.dD=ii/\True/\0<=c.ff/\c.ff<=4097/\(c.cQ=0->c.ff<=4096)
theorem pX {d:aq}{c:Z4}(h:Wk d c){e:Int}(he:e≠0):Wk d (eV c e):=by
 obtain⟨a,b,l,f,c1,c2⟩:=h;unfold eV;cases decide (c.cQ=0)
 ·exact⟨a,b,l,f,c1,c2⟩
 ·exact⟨a,b,l,f,c1,fun h=>absurd h he⟩
theorem WU {d:aq}{c:Z4}(h:Wk d c) (h0:c.cQ=0) (L:Int):∃c',kz c L=some c'/\Wk d c'/\(c'.cQ=0->L<=24):=by
 have i:∀c1:Z4,c1.Fd=d->c1.dD=ii->True->0<=c1.ff->c1.ff<=4096->(c1.cQ=0->L<=24) ->
   ∃c',((bG c1.ff (1:Int)).bind fun f=>bif (decide ((4096:Int)<f)) then(on (eV (Z4.mk c1.Fd c1.dD c1.f_ f c1.cQ) (4:Int)) fun o=>some o) else(some (Z4.mk c1.Fd c1.dD c1.f_ f c1.cQ)))=some c'/\Wk d c'/\(c'.cQ=0->L<=24):=by
  intro c1 a1 a2 a3 a4 a5 j;rw [eH (by omega),oB];by_cases k:4096<c1.ff+1
  ·rw [dT k,cond_true];simp only [Ab.on];unfold eV;simp only [];by_cases g:c1.cQ=0
   ·rw [dT g];exact⟨_,rfl,⟨a1,a2,a3,by show 0<=c1.ff+1; omega,by show c1.ff+1<=4097; omega,fun h=>(by cases h)⟩,fun h=>(by cases h)⟩
   ·rw [dF g];exact⟨_,rfl,⟨a1,a2,a3,by show 0<=c1.ff+1; omega,by show c1.ff+1<=4097; omega,fun h=>absurd h g⟩,j⟩
  ·rw [dF k];exact⟨_,rfl,⟨a1,a2,a3,by show 0<=c1.ff+1; omega,by show c1.ff+1<=4097; omega,fun _=>by show c1.ff+1<=4096; omega⟩,j⟩
 obtain⟨a,b,l,m,c1,c2⟩:=h;unfold kz;by_cases hl:24<L
 ·rw [dT hl];simp only [cond_true,Ab.on];refine i _ ?_ ?_ trivial ?_ ?_ ?_<;>unfold eV<;>rw [dT h0]
  ·exact a
  ·exact b
  ·exact m
  ·exact c2 h0
  ·exact fun h=>(by cases h)
 ·rw [dF hl];simp only [cond_false,Ab.on];exact i c a b l m (c2 h0) fun _=>by omega
def rq (d:aq) (n:Nat) (L:Int):Prop:=∀(c:Z4) (t:az) (v:aa),Wk d c->c.cQ=0->VW v->t.aK.l.length<=1048576->∃x c',eC n c t v L=some (x,c')/\Wk d c'
theorem WV {d:aq}{n:Nat}{L:Int}(m:0<=L/\L<=100) (hc:rq d n (L+1)){c:Z4}{t:az}{v:aa}(hk:Wk d c) (hv:VW v) (ht:t.aK.l.length<=1048576):∃x c',l9 (n+1) c t v L=some (x,c')/\Wk d c':=by
 have loop:∀(l:List aa) (c:Z4) (o:aa),Wk d c->(∀x∈l,VW x)->o.av.l.length+l.length<=2*bB->∃c' o',iB t L (eC n) l c o=some (c',o')/\Wk d c':=by
  intro l;induction l with
  | nil=>intro c o hk _ _; exact⟨c,o,rfl,hk⟩
  | cons a r i =>
   intro c o hk b f;simp only [List.length_cons] at f;rw [iB];by_cases he:c.cQ=0
   ·rw [dT he,cond_true];simp only [Ab.on];obtain⟨x,c',e,w⟩:=hc c t a hk he (b a (.head _)) ht;rw [eH (by omega),oB,e,oB,iZ (by unfold bB at f; simp only [List.length_cons,List.length_nil]; omega),oB];refine i c' _ w (fun x j=>b x (.tail _ j)) ?_;show (o.av.l++[x]).length+r.length<=_;rw [List.length_append,List.length_singleton]; omega
   ·rw [dF he]; exact⟨c,o,rfl,hk⟩
 rw [l9];simp only [Ab.on];have fin:∀l:Sl aa,(∀x∈l.l,VW x)->l.l.length<=bB->∃x c',(Option.bind (iB t L (eC n) l.l c (aa.mk (5:Int) (0:Int) ([]:Bs) true ([]) (Sl.nil:Sl Bs))) fun g=>some (g.2,g.1))=some (x,c')/\Wk d c':=by
  intro l h1 k;obtain⟨c',o',e,w⟩:=loop l.l c (aa.mk (5:Int) (0:Int) ([]:Bs) true ([]) (Sl.nil:Sl Bs)) hk h1 (by show 0+l.l.length<=_; unfold bB at k ⊢; omega);rw [e]; exact⟨_,_,rfl,w⟩
 cases decide (v.an=(5:Int))
 ·exact fin ⟨false,[v]⟩ (fun x b=>by rw [List.mem_singleton.1 b]; exact hv) (by unfold bB; simp)
 ·exact fin v.av (fun x b=>hv.item b) hv.len
def oc (d:aq):Prop:=∀t∈d.aA.l,t.bl.l.length<=1048576/\∀x∈t.bl.l,VW x.dy/\x.aJ.aK.l.length<=1048576
theorem Ly {d:aq}(t:ax):∀(l:List Bs) (c:Z4),Wk d c->Wk d (iC t l c)
 | [],c,h=>by rw [iC]; exact h
 | a::r,c,h=>by
  rw [iC];simp only [Ab.on];refine Ly t r _ ?_;cases (iI t.bl a).2
  ·exact pX h (by decide)
  ·exact h
theorem WW {d:aq}{n:Nat}{L:Int}(X:0<=L/\L<=100) (hc:rq d (n+1) (L+1)) (B:rq d n (L+1)){c:Z4}{t:ax}{v:aa}(hk:Wk d c) (hv:VW v) (hl:t.bl.l.length<=1048576) (hi:∀x∈t.bl.l,VW x.dy/\x.aJ.aK.l.length<=1048576):∃x c',l_ (n+2) c t v L=some (x,c')/\Wk d c':=by
 have C:∀(c:Z4) (t:az) (v:aa),Wk d c->c.cQ=0->VW v->t.aK.l.length<=1048576->∃x c',gw (n+1) c t v (L+1)=some (x,c')/\Wk d c':=by
  intro c t v hk he hv ht;obtain⟨x,c',e,w⟩:=B (Z4.mk c.Fd ii true c.ff c.cQ) t v ⟨hk.1,rfl,trivial,hk.2.2.2.1,hk.2.2.2.2.1,hk.2.2.2.2.2⟩ he hv ht;rw [gw];have E:eC n (Z4.mk c.Fd (aa.mk (0:Int) (0:Int) ([]:Bs) true ([]) (Sl.nil:Sl Bs)) true c.ff c.cQ) t v (L+1)=some (x,c'):=e;rw [E];exact⟨_,_,rfl,⟨w.1,hk.2.1,hk.2.2.1,w.2.2.2.1,w.2.2.2.2.1,w.2.2.2.2.2⟩⟩
 have loop:∀(l:List Z8) (i:Nat) (c:Z4) (o:aa),t.bl.l.drop i=l->Wk d c->o.av.l.length+l.length<=2097152->o.aF.l.length+l.length<=2097152 ->
   ∃c' o',gp t v L (eC (n+1)) (gw (n+1)) l i c o=some (c',o')/\Wk d c':=by
  intro l;induction l with
  | nil=>intro i c o _ hk _ _; exact⟨c,o,rfl,hk⟩
  | cons a r F =>
   intro i c o G hk H I;obtain⟨h1,J⟩:=yP G;have K:i<t.bl.l.length:=(List.getElem?_eq_some_iff.1 h1).1;have k:=hi a (List.mem_of_getElem? h1);simp only [List.length_cons] at H I;rw [gp];by_cases he:c.cQ=0
   ·rw [dT he,cond_true];simp only [Ab.on];obtain⟨b,M⟩:=WT t.bl K hl;rw [M,oB];have p:∀(o':Option (Z4×aa)),(∃c' z,o'=some (c',z)/\Wk d c'/\z.av.l.length+r.length<=2097152/\z.aF.l.length+r.length<=2097152) ->
      ∃c' N,(Option.bind o' fun q=>gp t v L (eC (n+1)) (gw (n+1)) r (i+1) q.1 q.2)=some (c',N)/\Wk d c':=by
     rintro _ ⟨c',z,rfl,w,O,P⟩;rw [oB];exact F (i+1) c' z J w O P
    have same:∃c' z,(some (c,o):Option (Z4×aa))=some (c',z)/\Wk d c'/\z.av.l.length+r.length<=2097152/\z.aF.l.length+r.length<=2097152:=⟨c,o,rfl,hk,by omega,by omega⟩;have add:∀(c':Z4) (x:aa),Wk d c'->∃c2 z,((aZ 16 o.aF (⟨false,[a.ai]⟩:Sl Bs)).bind fun j=>(aZ 80 o.av (⟨false,[x]⟩:Sl aa)).bind fun f=>some (c',(aa.mk o.an o.aV o.aR f.nl f.l j)))=some (c2,z)/\Wk d c2/\z.av.l.length+r.length<=2097152/\z.aF.l.length+r.length<=2097152:=by
     intro c' x w;rw [iw (by decide) (by simp only [List.length_cons,List.length_nil]; omega),oB,iZ (by simp only [List.length_cons,List.length_nil]; omega),oB];refine⟨_,_,rfl,w, ?_, ?_⟩
     ·show (o.av.l++[x]).length+r.length<=_; rw [List.length_append,List.length_singleton]; omega
     ·show (o.aF.l++[a.ai]).length+r.length<=_; rw [List.length_append,List.length_singleton]; omega
    cases b
    ·rw [cond_false];obtain⟨y,g,Q,R⟩:=WS hv a.ai;rw [Q,oB];refine p _ ?_;have go:∀m:Bool,∃c' z,(bif (g&&(!m)) then((bG L (1:Int)).bind fun S=>(eC (n+1) c a.aJ y S).bind fun s=>(aZ 16 o.aF (⟨false,[a.ai]⟩:Sl Bs)).bind fun j=>(aZ 80 o.av (⟨false,[s.1]⟩:Sl aa)).bind fun f=>some (s.2,(aa.mk o.an o.aV o.aR f.nl f.l j))) else(bif a.c_ then((bG L (1:Int)).bind fun U=>(gw (n+1) c a.aJ a.dy U).bind fun u=>(aZ 16 o.aF (⟨false,[a.ai]⟩:Sl Bs)).bind fun j=>(aZ 80 o.av (⟨false,[u.1]⟩:Sl aa)).bind fun f=>some (u.2,(aa.mk o.an o.aV o.aR f.nl f.l j))) else(bif fh a.aJ then((aZ 16 o.aF (⟨false,[a.ai]⟩:Sl Bs)).bind fun j=>(aZ 80 o.av (⟨false,[aa.zero]⟩:Sl aa)).bind fun f=>some (eV c (22:Int),(aa.mk o.an o.aV o.aR f.nl f.l j))) else(some (c,o)))))=some (c',z)/\Wk d c'/\z.av.l.length+r.length<=2097152/\z.aF.l.length+r.length<=2097152:=by
      intro m;cases (g&&!m)
      ·rw [cond_false];cases a.c_
       ·rw [cond_false];cases fh a.aJ
        ·exact same
        ·exact add _ _ (pX hk (by decide))
       ·obtain⟨x,c',e,w⟩:=C c a.aJ a.dy hk he k.1 k.2;rw [cond_true,eH (by omega),oB,e,oB];exact add c' x w
      ·obtain⟨x,c',e,w⟩:=hc c a.aJ y hk he R k.2;rw [cond_true,eH (by omega),oB,e,oB];exact add c' x w
     have W:∃m,kw c y=some m:=by
      unfold kw;cases ((!c.f_)||(!decide (y.an=(7:Int))))
      ·rw [cond_false,hk.2.1,EG]; exact⟨_,rfl⟩
      ·exact⟨_,rfl⟩
     obtain⟨m,em⟩:=W;rw [em];cases g
     ·exact go false
     ·exact go m
    ·exact p _ same
   ·rw [dF he]; exact⟨c,o,rfl,hk⟩
 rw [l_];cases (!decide (v.an=(6:Int)))
 ·rw [cond_false];simp only [Ab.on];obtain⟨c',o',e,w⟩:=loop t.bl.l 0 (iC t v.aF.l c) (aa.mk (6:Int) (0:Int) ([]:Bs) true ([]) (Sl.nil:Sl Bs)) rfl (Ly t _ c hk) (by show 0+t.bl.l.length<=_; omega) (by show 0+t.bl.l.length<=_; omega);rw [e]; exact⟨_,_,rfl,w⟩
 ·exact⟨_,_,rfl,pX hk (by decide)⟩
theorem WX {d:aq}{c:Z4}(hk:Wk d c) (s:Bs){v:aa}(hv:VW v):∃x c',jD c s v=some (x,c')/\Wk d c':=by
 unfold jD;generalize (((((s==([73,110,116]:Bs)))&&(decide (v.an=(2:Int))))&&(decide ((-2147483648:Int)<=v.aV)))&&(decide (v.aV<(2147483648:Int))))=b;cases b
 ·rw [cond_false];simp only [Ab.on];generalize (bif (((s==([83,116,114,105,110,103]:Bs)))&&(decide (v.an=(3:Int)))) then((((s==([83,116,114,105,110,103]:Bs)))&&(decide (v.an=(3:Int))))) else(bif (((s==([66,111,111,108,101,97,110]:Bs)))&&(decide (v.an=(1:Int)))) then((((s==([66,111,111,108,101,97,110]:Bs)))&&(decide (v.an=(1:Int))))) else((((s==([73,68]:Bs)))&&(decide (v.an=(3:Int)))))))=f
  cases f
  ·rw [cond_false];cases (((s==([73,68]:Bs)))&&(decide (v.an=(2:Int))))
   ·exact⟨_,_,rfl,pX hk (by decide)⟩
   ·rw [cond_true,KW hv.int.1 hv.int.2]; exact⟨_,_,rfl,hk⟩
  ·exact⟨_,_,rfl,hk⟩
 ·exact⟨_,_,rfl,hk⟩
theorem WY {d:aq}{c:Z4}(hk:Wk d c) (t:ax) (v:aa):Wk d (kC c t v).2:=by
 have loop:∀l:List Z9,match lu c v l with|Sum.inl _=>True|Sum.inr p=>Wk d p.2:=by
  intro l;induction l with
  | nil=>exact trivial
  | cons a r b =>
   rw [lu];simp only [Ab.on];cases a.ai==v.aR
   ·exact b
   ·exact hk
 unfold kC;simp only [Ab.on];cases ((decide (v.an=(4:Int)))||((decide (v.an=(3:Int)))&&(!c.f_)))
 ·exact pX hk (by decide)
 ·rw [cond_true];have:=loop t.bI.l;cases h:lu c v t.bI.l with
  | inl u=>exact pX hk (by decide)
  | inr p=>rw [h] at this; exact this
theorem Lz {d:aq}(B:oc d){m:Nat}{L:Int}(k:0<=L/\L<=100) (h:L<=24->rq d (m+1) (L+1)/\rq d m (L+1)):rq d (m+3) L:=by
 intro c t v hk he hv ht;rw [eC];simp only [Ab.on];cases iJ c.Fd t.ai
 ·exact⟨_,_,rfl,pX hk (by decide)⟩
 ·rw [Bool.not_true,cond_false];obtain⟨c1,C,g,E⟩:=WU hk he L;have o:∀v:aa,VW v->∃x c',((kz c L).bind fun f=>bif (!decide (f.cQ=(0:Int))) then(some ((aa.mk (0:Int) (0:Int) ([]:Bs) true ([]) (Sl.nil:Sl Bs)),f)) else(bif (decide (v.an=(0:Int))) then(some ((aa.mk (0:Int) (0:Int) ([]:Bs) true ([]) (Sl.nil:Sl Bs)),bif fh t then eV f (23:Int) else f)) else((kg t).bind fun p=>bif p.2 then(((l9 (m+2)) f p.1 v L).bind fun q=>some (q.1,q.2)) else(bif iS t.ai then((jD f t.ai v).bind fun r=>some (r.1,r.2)) else(bif (decide ((cU f.Fd t.ai).1.an=(4:Int))) then(some ((kC f (cU f.Fd t.ai).1 v).1,(kC f (cU f.Fd t.ai).1 v).2)) else(((l_ (m+2)) f (cU f.Fd t.ai).1 v L).bind fun s=>some (s.1,s.2)))))))=some (x,c')/\Wk d c':=by
   intro v hv;rw [C,oB];by_cases j:c1.cQ=0
   ·rw [dT j,Bool.not_true,cond_false];obtain⟨y,F⟩:=h (E j);cases decide (v.an=(0:Int))
    ·rw [cond_false];obtain⟨u,b,G,hu⟩:=El ht;rw [G,oB];cases b
     ·simp only [cond_false];cases iS t.ai
      ·rw [cond_false];cases decide ((cU c1.Fd t.ai).1.an=(4:Int))
       ·rw [cond_false];have i:=J7 c1.Fd t.ai;rw [g.1] at i ⊢;have z:(cU d t.ai).1.bl.l.length<=1048576/\∀x∈(cU d t.ai).1.bl.l,VW x.dy/\x.aJ.aK.l.length<=1048576:=by
         rcases i with i|i
         ·exact B _ i
         ·rw [i]; exact⟨Nat.zero_le _,fun _ h=>(by cases h)⟩
        obtain⟨x,c',e,w⟩:=WW (n:=m) k y F g hv z.1 z.2;rw [e]; exact⟨_,_,rfl,w⟩
       ·exact⟨_,_,rfl,WY g _ _⟩
      ·obtain⟨x,c',e,w⟩:=WX g t.ai hv;rw [cond_true,e]; exact⟨_,_,rfl,w⟩
     ·simp only [cond_true];obtain⟨x,c',e,w⟩:=WV (n:=m+1) (t:=u) k y g hv (by have:=hu rfl; omega);rw [e]; exact⟨_,_,rfl,w⟩
    ·rw [cond_true];refine⟨_,_,rfl, ?_⟩;cases fh t
     ·exact g
     ·exact pX g (by decide)
   ·rw [dF j]; exact⟨_,_,rfl,g⟩
  cases (c.f_&&(decide (v.an=(7:Int))))
  ·exact o v hv
  ·rw [cond_true,hk.2.1,EG,oB,show (!decide ((ii,false).1.an=(0:Int)))=false from rfl,cond_false];exact o ii VW.nil
theorem zb {d:aq}(b:oc d):∀(k n:Nat) (L:Int),3*(k+1)<=n->25-(k:Int)<=L->0<=L->L<=25->rq d n L
 | 0,n,L,h1,f,g,i=>by
  obtain⟨m,rfl⟩:∃m,n=m+3:=⟨n-3,by omega⟩;exact Lz b (by omega) fun h=>by omega
 | k+1,n,L,h1,f,g,i=>by
  obtain⟨m,rfl⟩:∃m,n=m+3:=⟨n-3,by omega⟩;exact Lz b (by omega) fun h=>⟨zb b k (m+1) (L+1) (by omega) (by omega) (by omega) (by omega),zb b k m (L+1) (by omega) (by omega) (by omega) (by omega)⟩
theorem WZ {d:aq}(i:oc d){t:az}{v:aa}(hv:VW v) (ht:t.aK.l.length<=1048576):∃r,qM d t v ii=some r:=by
 unfold qM;simp only [Ab.on];have j:∃m,kw (Z4.mk d ii true (0:Int) (0:Int)) v=some m:=by
  unfold kw;cases ((!(Z4.mk d ii true (0:Int) (0:Int)).f_)||(!decide (v.an=(7:Int))))
  ·rw [cond_false,EG]; exact⟨_,rfl⟩
  ·exact⟨_,rfl⟩
 obtain⟨m,em⟩:=j;rw [em];have run:∃r,((kD (Z4.mk d ii true (0:Int) (0:Int)) t v).bind fun f=>some (f.1,f.2.1))=some r:=by
  obtain⟨x,c',e,w⟩:=zb i 24 F0 1 (by rw [dM]; omega) (by omega) (by omega) (by omega) (Z4.mk d ii true (0:Int) (0:Int)) t v ⟨rfl,rfl,trivial,by show (0:Int)<=0; decide,by show (0:Int)<=4097; decide,fun _=>by show (0:Int)<=4096; decide⟩ rfl hv ht;unfold kD uZ;rw [e,oB];cases (!decide ((x,c').2.cQ=(0:Int)))<;>exact⟨_,rfl⟩
 have g:∀b:Bool,∃r,(bif (iJ d t.ai&&b) then(some ((aa.mk (0:Int) (0:Int) ([]:Bs) true ([]) (Sl.nil:Sl Bs)),(8:Int))) else((kD (Z4.mk d ii true (0:Int) (0:Int)) t v).bind fun f=>some (f.1,f.2.1)))=some r:=by
  intro b;cases (iJ d t.ai&&b)
  ·exact run
  ·exact⟨_,rfl⟩
 have k:∀c:Bool,∃r,(aN c (some m) false fun o=>bif (iJ d t.ai&&o) then(some ((aa.mk (0:Int) (0:Int) ([]:Bs) true ([]) (Sl.nil:Sl Bs)),(8:Int))) else((kD (Z4.mk d ii true (0:Int) (0:Int)) t v).bind fun f=>some (f.1,f.2.1)))=some r:=by
  intro c;cases c
  ·exact g false
  ·exact g m
 exact k _
theorem W3 {d:aq}(b:oc d){t:az}{v:aa}(hv:VW v) (ht:t.aK.l.length<=1048576):∃r,mC d t v=some r:=by
 unfold mC;obtain⟨x,c',e,w⟩:=zb b 24 F0 1 (by rw [dM]; omega) (by omega) (by omega) (by omega) (Z4.mk d ii false (0:Int) (0:Int)) t v ⟨rfl,rfl,trivial,by show (0:Int)<=0; decide,by show (0:Int)<=4097; decide,fun _=>by show (0:Int)<=4096; decide⟩ rfl hv ht;unfold kD uZ;rw [show Z4.mk d aa.zero false (0:Int) (0:Int)=Z4.mk d ii false (0:Int) (0:Int) from rfl,e,oB]
 cases (!decide ((x,c').2.cQ=(0:Int)))<;>exact⟨_,rfl⟩
theorem LA {d:aq}(b:oc d){p q r:Bs}(g:p.length<=10000000) (hq:q.length<=10) (hr:r.length<=10):∀(l:List Z8) (s:Sl Z5),(∀x∈l,VW x.dy/\x.aJ.aK.l.length<=1048576/\x.ai.length<=1048576)->s.l.length+l.length<=1000000000->Tl (nM d p q r l s) (s.l.length+l.length)
 | [],s,_,_=>⟨s,rfl,by simp⟩
 | a::t,s,f,h=>by
  obtain⟨h1,i,m⟩:=f a (.head _);simp only [List.length_cons] at h ⊢;rw [nM];simp only [Ab.on];refine Tl.bind (a:=s.l.length+1) ?_ fun u hu=>(LA b g hq hr t u (fun x j=>f x (.tail _ j)) (by omega)).mono (by omega);cases a.c_
  ·exact⟨s,rfl,by omega⟩
  ·rw [Bool.not_true,cond_false];obtain⟨z,e⟩:=WZ b h1 i;have k:qM d a.aJ a.dy (aa.mk (0:Int) (0:Int) ([]:Bs) true ([]) (Sl.nil:Sl Bs))=some z:=e;rw [k,oB];cases (!decide (z.2=(0:Int)))
   ·exact⟨s,rfl,by omega⟩
   ·rw [cond_true,fG (by omega),oB,fG (by simp only [List.length_append]; omega),oB,fG (by simp only [List.length_append]; omega),oB];exact Tl.nU (by omega) (by omega)
theorem LB {d:aq}(b:oc d) (l:Sl Z8){p q r:Bs}(f:p.length<=10000000) (hq:q.length<=10) (hr:r.length<=10) (g:∀x∈l.l,VW x.dy/\x.aJ.aK.l.length<=1048576/\x.ai.length<=1048576) (hl:l.l.length<=1048576):Tl (ph d l p q r) l.l.length:=by
 obtain⟨u,e,h⟩:=LA b f hq hr l.l Sl.nil g (by show 0+l.l.length<=_; omega);unfold ph;rw [e];exact⟨u,rfl,by simpa [Sl.nil] using h⟩
structure LC (x:Z8):Prop where
 v:VW x.dy
 w:x.aJ.aK.l.length<=1048576
 n:x.ai.length<=1048576
theorem EH {x:Z8}(hw:x.wf) (h:x.sz<=1048576):LC x:=by
 have h1:=x.bM;have b:=az.pR x.aJ;have f:=Bs.dN x.ai;exact⟨VW.of (by omega) hw.2.2.2.1,by omega,by omega⟩
theorem LD {d:aq}(i:oc d){t:ax}(ht:t.ai.length<=1048576):∀(l:List Z6) (s:Sl Z5),(∀f∈l,f.ai.length<=1048576/\f.aO.l.length<=f.sz/\f.sz<=1048576/\∀x∈f.aO.l,LC x)->s.l.length+(l.map Z6.sz).sum<=1000000000->Tl (pn d t l s) (s.l.length+(l.map Z6.sz).sum)
 | [],s,_,_=>⟨s,rfl,by simp⟩
 | a::r,s,j,h=>by
  obtain⟨h1,m,o,b⟩:=j a (.head _);simp only [List.map_cons,List.sum_cons] at h ⊢;rw [pn];simp only [Ab.on];rw [fG (by simp only [List.length_cons,List.length_nil]; omega),oB,fG (by simp only [List.length_append,List.length_cons,List.length_nil]; omega),oB];refine Tl.pS (a:=s.l.length) (Nat.le_refl _) (LB i a.aO (p:=t.ai++[46]++a.ai) (q:=[40]) (r:=[41]) (by simp only [List.length_append,List.length_cons,List.length_nil]; omega) (by simp) (by simp) (fun x g=>⟨(b x g).v,(b x g).w,(b x g).n⟩) (by omega)) (by omega) fun u hu=>?_
  exact(LD i ht r u (fun f k=>j f (.tail _ k)) (by omega)).mono (by omega)
theorem LF {d:aq}(g:oc d):∀(l:List ax) (s:Sl Z5),(∀t∈l,t.wf/\t.sz<=1048576)->s.l.length+2*(l.map ax.sz).sum<=1000000000->Tl (mb d l s) (s.l.length+2*(l.map ax.sz).sum)
 | [],s,_,_=>⟨s,rfl,by simp⟩
 | a::r,s,i,h=>by
  obtain⟨h1,k⟩:=i a (.head _);simp only [List.map_cons,List.sum_cons] at h ⊢;have m:=a.bM;have o:Sl.sz Z6.sz a.bC=1+(a.bC.l.map Z6.sz).sum:=rfl;have hi:=Sl.dN (f:=Z8.sz) a.bl (fun x=>x.pos);have hn:=Bs.dN a.ai;rw [mb];simp only [Ab.on];refine Tl.bind (a:=s.l.length+(a.bC.l.map Z6.sz).sum) (LD g (by omega) a.bC.l s (fun f j=>?_) (by omega)) fun u hu=>?_
  ·have y:=Sl.dV (f:=Z6.sz) j;have z:=f.bM;have B:=Bs.dN f.ai;have C:=Sl.dN (f:=Z8.sz) f.aO (fun x=>x.pos);exact⟨by omega,by omega,by omega,fun x b=>EH ((h1.2.2.2.2.1.2.2 f j).2.1.2.2 x b) (by have:=Sl.dV (f:=Z8.sz) b; omega)⟩
  ·refine Tl.pS (a:=s.l.length+(a.bC.l.map Z6.sz).sum) hu (LB g a.bl (p:=a.ai) (q:=[46]) (r:=[]) (by omega) (by simp) (by simp) (fun x b=>?_) (by omega)) (by omega) fun v hv=>(LF g r v (fun t ht=>i t (.tail _ ht)) (by omega)).mono (by omega);have:=EH (h1.2.2.2.2.2.2.1.2.2 x b) (by have:=Sl.dV (f:=Z8.sz) b; omega);exact⟨this.v,this.w,this.n⟩
theorem LG {d:aq}(hw:d.wf) (g:d.sz<=1048576):oc d:=fun t ht=>by
 have h1:=aq.vJ ht;have i:=t.bM;have j:=Sl.dN (f:=Z8.sz) t.bl (fun x=>x.pos);refine⟨by omega,fun x b=>?_⟩;have:=EH ((hw.1.2.2 t ht).2.2.2.2.2.2.1.2.2 x b) (by have:=Sl.dV (f:=Z8.sz) b; omega);exact⟨this.v,this.w⟩
theorem PL {d:aq}(hw:d.wf) (b:d.sz<=1048576):Tl (sZ d) 3000000:=by
 have f:=d.bM;have hi:Sl.sz ax.sz d.aA=1+(d.aA.l.map ax.sz).sum:=rfl;obtain⟨u,e,h⟩:=LF (LG hw b) d.aA.l Sl.nil (fun t ht=>⟨hw.1.2.2 t ht,by have:=aq.vJ ht; omega⟩) (by show 0+2*(d.aA.l.map ax.sz).sum<=_; omega);unfold sZ;rw [e];refine⟨u,rfl, ?_⟩;have:(Sl.nil:Sl Z5).l.length=0:=rfl;omega
theorem EI:∀s t:Bs,Lib.compareBytes s t=0↔s=t
 | [],[]=>by simp [Lib.compareBytes]
 | [],_::_=>by simp [Lib.compareBytes]
 | _::_,[]=>by simp [Lib.compareBytes]
 | a::r,b::q=>by
  rw [Lib.compareBytes];by_cases h1:a<b
  ·rw [if_pos h1];exact⟨fun h=>(by cases h),fun h=>by cases h; exact absurd h1 (UInt8.lt_irrefl _)⟩
  ·rw [if_neg h1];by_cases f:b<a
   ·rw [if_pos f];exact⟨fun h=>(by cases h),fun h=>by cases h; exact absurd f (UInt8.lt_irrefl _)⟩
   ·rw [if_neg f,EI r q];have:a=b:=UInt8.le_antisymm (UInt8.not_lt.1 f) (UInt8.not_lt.1 h1);rw [this]; simp
theorem EJ (a b:Int):∃c,qZ a b=some c/\(c=0↔a=b):=by
 rw [RB]; unfold xT s8;simp only [Ab.on,decide_true,Bool.not_true,oB,cond_false];by_cases h1:a<b
 ·rw [dT h1]; exact⟨-1,rfl,⟨fun h=>(by cases h),fun h=>by omega⟩⟩
 ·rw [dF h1];by_cases f:b<a
  ·rw [dT f]; exact⟨1,rfl,⟨fun h=>(by cases h),fun h=>by omega⟩⟩
  ·rw [dF f]; exact⟨0,rfl,⟨fun _=>by omega,fun _=>rfl⟩⟩
theorem EK (v:aa) (i:Nat):s9 v (i:Int)=some (v.aF.l.getD i []):=by
 rw [RE]; unfold xU;by_cases h:i<v.aF.l.length
 ·have b:bV v.aF.l (i:Int)=some v.aF.l[i]:=by unfold bV; rw [if_pos (by omega),Int.toNat_natCast,List.getElem?_eq_getElem h]
  rw [dT (by omega:((i:Nat):Int)<((v.aF.l.length:Nat):Int)),cond_true,b,oB,List.getD_eq_getElem?_getD,List.getElem?_eq_getElem h]; rfl
 ·rw [dF (by omega:¬((i:Nat):Int)<((v.aF.l.length:Nat):Int)),cond_false,List.getD_eq_getElem?_getD,List.getElem?_eq_none (by omega)]; rfl
def AtR (R:aa->aa->Prop) (v w:aa) (j:Nat):Prop:=v.aF.l.getD j []=w.aF.l.getD j []/\∃x y,v.av.l[j]?=some x/\w.av.l[j]?=some y/\R x y
def jJ:Nat->aa->aa->Prop
 | 0,_,_=>False
 | n+1,v,w=>v.an=w.an/\v.aV=w.aV/\v.aR=w.aR/\v.av.l.length=w.av.l.length/\∀j,0<=j->j<v.av.l.length->AtR (jJ n) v w j
theorem LH:∀x:Bs,Op.bytesLess x x=false
 | []=>by simp [Op.bytesLess]
 | a::x=>by rw [Op.bytesLess,LH x]; simp
theorem EL (a b:Int):pL a b=0↔a=b:=by
 unfold pL;by_cases h1:a<b
 ·rw [dT h1,cond_true]; exact⟨fun h=>(by cases h),fun h=>by omega⟩
 ·rw [dF h1,cond_false];by_cases f:b<a
  ·rw [dT f,cond_true]; exact⟨fun h=>(by cases h),fun h=>by omega⟩
  ·rw [dF f,cond_false]; exact⟨fun _=>by omega,fun _=>rfl⟩
theorem LI (a b:Bs):pM a b=0↔a=b:=by
 unfold pM;cases h1:Op.bytesLess a b
 ·rw [cond_false,Bool.false_or];by_cases f:a=b
  ·rw [beq_iff_eq.mpr f]; exact⟨fun _=>f,fun _=>rfl⟩
  ·rw [show (a==b)=false from beq_eq_false_iff_ne.mpr f]; exact⟨fun h=>(by cases h),fun h=>absurd h f⟩
 ·rw [cond_true];exact⟨fun h=>(by cases h),fun h=>by rw [h,LH] at h1; cases h1⟩
theorem LJ (v:aa) (i:Nat):tK v (i:Int)=some (v.aF.l.getD i []):=by
 rw [Tj]; exact EK v i
def W4 (x:Z8):Prop:=x.c_=true->gH x.dy=some true
theorem EM {α β:Type}{o:Option α}{d:α}{k:α->Option β}{z:β}(h:aN true o d k=some z):∃v,o=some v/\k v=some z:=by
  rcases fp h with ⟨_,h⟩|⟨hc,_⟩
  · exact h
  · cases hc
theorem W5 (l:List Z6) (z:Unit ⊕ Bool) (h:k9 l=some z):(z=Sum.inl ()/\∀x∈l,gZ x.aO=some true)\/z=Sum.inr false:=by
  induction l generalizing z with
  | nil=>rw [k9] at h; exact .inl ⟨(oJ h).symm,fun a f=>by cases f⟩
  | cons a r g =>
    rw [k9] at h;simp only [Ab.on] at h;cases e:eE a.ai with
    | false=>simp [e,aN] at h; exact .inr h.symm
    | true =>
      simp only [e,Bool.not_true,Bool.not_false,cond_true,Bool.false_or] at h;obtain⟨i,j,h⟩:=EM h;cases i with
      | false=>simp [aN] at h; exact .inr h.symm
      | true =>
        simp only [Bool.not_true,Bool.not_false,cond_true,Bool.false_or] at h;obtain⟨k,_,h⟩:=EM h;cases k with
        | false=>simp [aN] at h; exact .inr h.symm
        | true =>
          simp only [Bool.not_true,Bool.not_false,cond_true,Bool.false_or] at h;obtain⟨m,_,h⟩:=EM h;cases m with
          | false=>simp at h; exact .inr h.symm
          | true =>
            simp only [Bool.not_true,cond_false] at h;rcases g z h with ⟨h1,o⟩|h1
            · exact .inl ⟨h1,fun y b=>by rcases List.mem_cons.1 b with rfl|b; exact j; exact o y b⟩
            · exact .inr h1
theorem LK {s:Sl Z8}(h:gZ s=some true):s.l.length<=16:=by
  unfold gZ at h;rcases eT h with ⟨_,h⟩|⟨h1,_⟩
  · cases h
  · rw [decide_eq_false_iff_not] at h1; omega
theorem LM {s:Sl Z6}(h:jW s=some true):s.l.length<=64/\∀x∈s.l,gZ x.aO=some true:=by
  unfold jW at h;rcases eT h with ⟨_,h⟩|⟨h1,h⟩
  · cases h
  · obtain⟨z,g,h⟩:=gA h
    rw [Bool.or_eq_false_iff,decide_eq_false_iff_not,decide_eq_false_iff_not] at h1;rcases W5 _ _ g with ⟨_,b⟩|rfl
    · exact⟨by omega,b⟩
    · cases h
theorem LN {s:Sl Z9}{b:Bool}(h:k_ s b=some true):s.l.length<=64:=by
  unfold k_ at h;rcases eT h with ⟨_,h⟩|⟨h1,_⟩
  · cases h
  · rw [Bool.or_eq_false_iff,decide_eq_false_iff_not,decide_eq_false_iff_not] at h1; omega
structure Rt (t:ax):Prop where
  f:t.bC.l.length<=64
  a:∀x∈t.bC.l,gZ x.aO=some true
  i:t.bl.l.length<=16
  d:∀y∈t.bl.l,W4 y
  m:t.bI.l.length<=64
  p:t.bU.l.length<=64
  q:t.bl.l=[]\/gZ t.bl=some true
theorem W6 {t:ax}(h:hG t=some true):Rt t:=by
  have mk:t.bU.l.length<=64->(t.bC.l=[]\/jW t.bC=some true)->(t.bl.l=[]\/gZ t.bl=some true)->t.bI.l.length<=64->Rt t:=fun h1 g b i=>by
    refine⟨?_, ?_, ?_, ?_,i,h1,b⟩
    · rcases g with e|e
      · rw [e]; exact Nat.zero_le _
      · exact(LM e).1
    · rcases g with e|e
      · rw [e]; intro x f; cases f
      · exact(LM e).2
    · rcases b with e|e
      · rw [e]; exact Nat.zero_le _
      · exact LK e
    · rcases b with e|e
      · rw [e]; intro x f; cases f
      · exact K_ e
  have z:∀{α:Type}{l:List α},l=[]->l.length<=64:=fun e=>by rw [e]; exact Nat.zero_le _
  unfold hG at h;simp only [Ab.on] at h;rcases fp h with ⟨_,k,_,h⟩|⟨_,h⟩<;>rcases eT h with ⟨_,h⟩|⟨j,h⟩;all_goals first
    | (cases h; done)
    | (have hq:t.bU.l.length<=64:=by
         rw [Bool.or_eq_false_iff,decide_eq_false_iff_not] at j; omega
       cases e:lg t.bU.l with
       | inr y=>rw [e] at h; have:=Ef _ _ e; subst this; cases h
       | inl _ =>
         rw [e] at h;simp only at h;rcases eT h with ⟨k1,h⟩|⟨_,h⟩
         · obtain⟨m,ex,h⟩:=gA h
           simp at h k1;rw [h.1.1] at ex;exact mk hq (.inr ex) (.inl h.2) (z h.1.2)
         · rcases eT h with ⟨k1,h⟩|⟨_,h⟩
           · rcases fp h with ⟨_,x,ex,h⟩|⟨_,h⟩
             · simp at h k1; rw [h.1.1.2] at ex; exact mk hq (.inr ex) (.inl h.2) (z h.1.2)
             · simp at h
           · rcases eT h with ⟨_,h⟩|⟨_,h⟩
             · rcases fp h with ⟨_,x,ex,h⟩|⟨_,h⟩
               · simp at h; rw [h.1.2] at ex; exact mk hq (.inl h.1.1.2) (.inl h.2) (LN ex)
               · simp at h
             · rcases eT h with ⟨_,h⟩|⟨_,h⟩
               · rcases fp h with ⟨_,x,ex,h⟩|⟨_,h⟩
                 · simp at h; rw [h.1.2] at ex; exact mk hq (.inl h.1.1.2) (.inl h.2) (LN ex)
                 · simp at h
               · rcases eT h with ⟨k1,h⟩|⟨_,h⟩
                 · rcases fp h with ⟨_,x,ex,h⟩|⟨_,h⟩
                   · simp at h k1; rw [h.2] at ex; exact mk hq (.inl h.1.1.1.2) (.inr ex) (z h.1.1.2)
                   · simp at h
                 · cases h)
theorem W7 {t:ax}(h:hG t=some true):Sm t/\t.bU.l.length<=600:=by
  have r:=W6 h;have:=r.f; have:=r.m; have:=r.p; have:=r.i;exact⟨⟨by omega,by omega,by omega,by omega,fun f b=>by have:=LK (r.a f b); omega⟩,by omega⟩
section
variable {α κ γ:Type} [BEq κ] [LawfulBEq κ]
end
theorem PK {d:aq}(h:iA d=some true):d.aA.l.length<=600/\∀t∈d.aA.l,Sm t/\t.bU.l.length<=600:=by
 constructor
 ·unfold iA at h;rcases eT h with ⟨_,h⟩|⟨h1,_⟩
  ·cases h
  ·simp only [Bool.or_eq_false_iff,decide_eq_false_iff_not] at h1;omega
 ·exact fun t ht=>W7 (xk h t ht)
end Go.Proofs
namespace Go.Proofs
open Go Go.Ab
theorem aj.jG {p x:aj}(h:x∈p.bE.l):x.sz<p.sz:=by
 have h1:=p.bM; have b:=Sl.dV (f:=aj.sz) h; omega
theorem LO:∀(l:List aD) (s:Int),(∀x∈l,x.sz<=1048576)->0<=s->s+(l.map aD.sz).sum<=1073741824->Gr (nN l s) s (l.map aD.sz).sum
 | [],s,_,_,_=>Gr.refl _ _
 | a::r,s,f,h0,h=>by
  simp only [List.map_cons,List.sum_cons] at h ⊢;rw [nN];cases decide (s<=(300:Int)) with
  | false=>exact Gr.refl _ _
  | true =>
   simp only [cond_true,Ab.on];have i:=a.bM;have j:=Bs.gF a.ai;have hm:=f a List.mem_cons_self;refine Gr.bind (a:=1) (b:=a.eU.sz+(r.map aD.sz).sum) (Gr.add (by omega) (by omega)) (by omega) fun x h1 k=>?_;obtain⟨w,e,m,o⟩:=EB 300 a.eU (by omega);rw [e,oB];refine Gr.bind (a:=a.eU.sz) (b:=(r.map aD.sz).sum) (Gr.add (by omega) (by omega)) (by omega) fun y p q=>?_
   exact LO r y (fun z g=>f z (List.mem_cons_of_mem _ g)) (by omega) (by omega)
theorem W8 (n:Nat):∀p:aj,p.sz<n->p.sz<=1048576->Gr (kE n p) 0 p.sz:=by
 induction n with
 | zero=>intro v h; omega
 | succ n j =>
  intro v hn t;have u:=v.bM;have ht:=v.aJ.bM;have hk:Sl.sz aD.sz v.aO=1+(v.aO.l.map aD.sz).sum:=rfl;have hi:Sl.sz aj.sz v.bE=1+(v.bE.l.map aj.sz).sum:=rfl;have B:v.aJ.aK.l.length<=Sl.sz (fun _=>1) v.aJ.aK:=Sl.dN (f:=fun _=>1) v.aJ.aK (fun _=>Nat.le_refl _);have hl:∀(l:List aj) (s:Int),(∀x∈l,x.sz<n/\x.sz<=1048576)->0<=s->s+(l.map aj.sz).sum<=1073741824->Gr (mc (kE n) l s) s (l.map aj.sz).sum:=by
   intro l;induction l with
   | nil=>intro s _ _ _; exact Gr.refl _ _
   | cons a r k =>
    intro s g h0 h;simp only [List.map_cons,List.sum_cons] at h ⊢;rw [mc];cases decide (s<=(300:Int)) with
    | false=>exact Gr.refl _ _
    | true =>
     simp only [cond_true,Ab.on];obtain⟨w,e,h1,C⟩:=j a (g a (by simp)).1 (g a (by simp)).2;rw [e,oB];refine Gr.bind (a:=a.sz) (b:=(r.map aj.sz).sum) (Gr.add (by omega) (by omega)) (by omega) fun y E F=>?_;exact k y (fun x m=>g x (by simp [m])) (by omega) (by omega)
  rw [kE,eH (by omega),oB];simp only [Ab.on];obtain⟨x,o,G,H⟩:=LO v.aO.l (1+((v.aJ.aK.l.length:Nat):Int)) (fun z i=>by have:=Sl.dV (f:=aD.sz) i; omega) (by omega) (by omega);rw [o,oB];obtain⟨y,q,I,J⟩:=hl v.bE.l x (fun z i=>by have:=aj.jG i; omega) (by omega) (by omega);rw [q];exact⟨y,rfl,by omega,by omega⟩
theorem LP:∀(l:List aj) (s:Int),(∀x∈l,x.sz<=1048576)->0<=s->s+(l.map aj.sz).sum<=1073741824->∃r,nO l s=some r
 | [],s,_,_,_=>⟨s,rfl⟩
 | a::r,s,b,h0,h=>by
  simp only [List.map_cons,List.sum_cons] at h;rw [nO];cases decide (s<=(300:Int)) with
  | false=>exact⟨s,rfl⟩
  | true =>
   simp only [cond_true,Ab.on];obtain⟨w,e,h1,g⟩:=W8 F0 a (by rw [dM]; have:=b a List.mem_cons_self; omega) (b a List.mem_cons_self);unfold BW;rw [e,oB,eH (by omega),oB];exact LP r _ (fun z f=>b z (List.mem_cons_of_mem _ f)) (by omega) (by omega)
theorem PV {a:Sl aj}(i:Sl.sz aj.sz a<=1048576):∃b,s4 a=some b:=by
 have hi:Sl.sz aj.sz a=1+(a.l.map aj.sz).sum:=rfl;obtain⟨r,e⟩:=LP a.l 0 (fun x g=>by have:=Sl.dV (f:=aj.sz) g; omega) (by omega) (by omega);exact⟨_,by unfold s4; rw [e]; rfl⟩
theorem LQ {L:List Bs}(g:L.Nodup){t:List Bs}(h:t.Sublist L):t=L.filter (fun x=>decide (x∈t)):=by
 induction h with
 | slnil=>rfl
 | @cons t i a h b =>
  obtain⟨h1,f⟩:=List.nodup_cons.1 g;have hn:a∉t:=fun j=>h1 (h.subset j);rw [List.filter_cons,if_neg (by simpa using hn)];exact b f
 | @cons_cons t i a h b =>
  obtain⟨h1,f⟩:=List.nodup_cons.1 g;rw [List.filter_cons,if_pos (by simp)]
  congr 1
  conv=>lhs; rw [b f]
  refine List.filter_congr fun x k=>?_;have:x≠a:=fun e=>h1 (e▸k);simp [this]
theorem W9 {L:List Bs}(b:L.Nodup){t u:List Bs}(h:t.Sublist L) (h':u.Sublist L) (e:∀z,z∈t↔z∈u):t=u:=by
 rw [LQ b h,LQ b h'];refine List.filter_congr fun x _=>?_;simp [e x]
theorem LR {s r u:Sl Bs}(h:aZ 16 s r=some u):u.l=s.l++r.l:=by rw [(uy h).1]
theorem EN (d:aq):∀(n:Nat) (o:Sl Bs) (s:Nat) (l:List Bs) (r:Sl Bs),mg d n o s l=some r->∃t,r.l=o.l++t/\t.Sublist ((d.aA.l.drop s).map ax.ai)
 | 0,_,_,_,_,h=>by cases h
 | n+1,o,s,l,r,h=>by
  rw [mg] at h;by_cases i:s<d.aA.l.length
  ·rw [show decide (((s:Nat):Int)<((d.aA.l.length:Nat):Int))=true from dT (by omega),cond_true,List.getElem?_eq_getElem i,oB] at h;unfold s6 at h;rw [List.drop_eq_getElem_cons i,List.map_cons];cases hc:l.contains d.aA.l[s].ai
   ·rw [hc,cond_false] at h;obtain⟨t,b,f⟩:=EN d n o (s+1) l r h;exact⟨t,b,f.cons _⟩
   ·rw [hc,cond_true] at h;cases g:aZ 16 o (⟨false,[d.aA.l[s].ai]⟩:Sl Bs) with
    | none=>rw [g] at h; cases h
    | some u =>
     rw [g,oB] at h;obtain⟨t,b,f⟩:=EN d n u (s+1) _ r h;exact⟨d.aA.l[s].ai::t,by rw [b,LR g]; simp,f.cons_cons _⟩
  ·rw [show decide (((s:Nat):Int)<((d.aA.l.length:Nat):Int))=false from dF (by omega),cond_false] at h;unfold xK at h;cases h;exact⟨[],by simp,List.nil_sublist _⟩
theorem zc {d:aq}{a:Bs}{x:ax×Bool}{l:List Bs}{r:Sl Bs}(h:mh d a x l=some r):r.l.Sublist (d.aA.l.map ax.ai):=by
 unfold mh at h;cases b:qn (qQ d a x) l with
 | none=>rw [b] at h; cases h
 | some u =>
  rw [b,oB] at h;unfold u7 at h;obtain⟨t,f,g⟩:=EN d _ _ _ _ _ h;rw [f]
  simpa [Sl.nil] using g
theorem EO {d:aq}{a:Bs}{x:ax×Bool}:∀(n s:Nat) (l:List Bs) (r:Sl Bs),mj d a x n s l=some r->r.l.Sublist (d.aA.l.map ax.ai)
 | 0,_,_,_,h=>by cases h
 | n+1,s,l,r,h=>by
  rw [mj] at h;by_cases b:s<d.aA.l.length
  ·rw [show decide (((s:Nat):Int)<((d.aA.l.length:Nat):Int))=true from dT (by omega),cond_true,List.getElem?_eq_getElem b,oB,B3,oB] at h;unfold s7 at h;cases hc:u4 d.aA.l[s] a
   ·rw [hc,cond_false] at h; exact EO n _ _ _ h
   ·rw [hc,cond_true] at h; exact EO n _ _ _ h
  ·rw [show decide (((s:Nat):Int)<((d.aA.l.length:Nat):Int))=false from dF (by omega),cond_false] at h;exact zc h
theorem LS {d:aq}{a:Bs}{x:ax×Bool}:∀(n s:Nat) (l:List Bs) (r:Sl Bs),pu d a x n s l=some r->r.l.Sublist (d.aA.l.map ax.ai)
 | 0,_,_,_,h=>by cases h
 | n+1,s,l,r,h=>by
  rw [pu] at h;by_cases b:s<x.1.bI.l.length
  ·rw [show decide (((s:Nat):Int)<((x.1.bI.l.length:Nat):Int))=true from dT (by omega),cond_true,List.getElem?_eq_getElem b,oB] at h;exact LS n _ _ _ h
  ·rw [show decide (((s:Nat):Int)<((x.1.bI.l.length:Nat):Int))=false from dF (by omega),cond_false] at h;exact zc h
theorem W_ {d:aq}{a:Bs}{r:Sl Bs}(h:qS d a=some r):r.l.Sublist (d.aA.l.map ax.ai):=by
 unfold qS qR at h;rw [oO,oB] at h;cases h1:decide ((eL d a).1.an=(1:Int))
 ·rw [h1,cond_false] at h;cases b:decide ((eL d a).1.an=(2:Int))
  ·rw [b,cond_false] at h;cases f:decide ((eL d a).1.an=(3:Int))
   ·rw [f,cond_false] at h; exact zc h
   ·rw [f,cond_true] at h; exact LS _ _ _ _ h
  ·rw [b,cond_true] at h; exact EO _ _ _ _ h
 ·rw [h1,cond_true] at h; exact zc h
theorem EP {d:aq}{a:Bs}{x:ax×Bool}:∀(l:List ax) (i:Nat) (s r:Sl Bs),fw d a x l i s=some r->∃t,r.l=s.l++t/\t.Sublist (l.map ax.ai)
 | [],i,s,r,h=>by rw [fw] at h; cases h; exact⟨[],by simp,List.nil_sublist _⟩
 | o::l,i,s,r,h=>by
  rw [fw] at h;have skip:fw d a x l (i+1) s=some r->∃t,r.l=s.l++t/\t.Sublist ((o::l).map ax.ai):=fun h=>by
   obtain⟨t,f,g⟩:=EP l (i+1) s r h;exact⟨t,f,by rw [List.map_cons]; exact g.cons _⟩
  cases k:x.2
  ·rw [k,cond_false] at h; cases h; exact⟨[],by simp,List.nil_sublist _⟩
  ·rw [k,cond_true] at h;simp only [Ab.on] at h;have key:∀b:Bool,(Option.bind (bif ((!decide (o.an=(1:Int)))||(!b)) then(some s) else(bif ((((decide (x.1.an=(1:Int)))&&((o.ai==a)))||((decide (x.1.an=(2:Int)))&&(bif (!((decide (x.1.an=(1:Int)))&&((o.ai==a)))&&(decide (x.1.an=(2:Int)))) then iT o.bU a else false)))||((decide (x.1.an=(3:Int)))&&(bif (!(((decide (x.1.an=(1:Int)))&&((o.ai==a)))||((decide (x.1.an=(2:Int)))&&(bif (!((decide (x.1.an=(1:Int)))&&((o.ai==a)))&&(decide (x.1.an=(2:Int)))) then iT o.bU a else false)))&&(decide (x.1.an=(3:Int)))) then l5 x.1 o.ai else false))) then((aZ 16 s (⟨false,[o.ai]⟩:Sl Bs)).bind fun q=>some q) else(some s))) fun v=>fw d a x l (i+1) v)=some r->∃t,r.l=s.l++t/\t.Sublist ((o::l).map ax.ai):=by
    intro b h;cases m:((!decide (o.an=(1:Int)))||(!b))
    ·rw [m,cond_false] at h
     revert h
     generalize ((((decide (x.1.an=(1:Int)))&&((o.ai==a)))||((decide (x.1.an=(2:Int)))&&(bif (!((decide (x.1.an=(1:Int)))&&((o.ai==a)))&&(decide (x.1.an=(2:Int)))) then iT o.bU a else false)))||((decide (x.1.an=(3:Int)))&&(bif (!(((decide (x.1.an=(1:Int)))&&((o.ai==a)))||((decide (x.1.an=(2:Int)))&&(bif (!((decide (x.1.an=(1:Int)))&&((o.ai==a)))&&(decide (x.1.an=(2:Int)))) then iT o.bU a else false)))&&(decide (x.1.an=(3:Int)))) then l5 x.1 o.ai else false)))=c
     intro h;cases c
     ·exact skip h
     ·rw [cond_true] at h;cases j:aZ 16 s (⟨false,[o.ai]⟩:Sl Bs) with
      | none=>rw [j] at h; cases h
      | some u =>
       rw [j] at h;obtain⟨t,f,g⟩:=EP l (i+1) u r h;exact⟨o.ai::t,by rw [f,LR j]; simp,by rw [List.map_cons]; exact g.cons_cons _⟩
    ·rw [m,cond_true] at h;exact skip h
   unfold aN at h
   split at h
   ·cases p:sN d ((i:Nat):Int) with
    | none=>rw [p] at h; cases h
    | some b=>rw [p] at h; exact key b h
   ·exact key false h
theorem Xa {d:aq}{a:Bs}{r:Sl Bs}(h:kn d a=some r):r.l.Sublist (d.aA.l.map ax.ai):=by
 unfold kn at h;simp only [Ab.on] at h;cases hq:fw d a (cU d a) d.aA.l 0 (Sl.nil:Sl Bs) with
 | none=>rw [hq] at h; cases h
 | some u =>
  rw [hq] at h;cases h;obtain⟨t,b,f⟩:=EP _ _ _ _ hq;rw [b]; simpa [Sl.nil] using f
theorem PB {d:aq}(hl:d.aA.l.length<=1048576) (g:(d.aA.l.map ax.ai).Nodup) (a:Bs):∃x y,qS d a=some x/\kn d a=some y/\x.l=y.l:=by
 obtain⟨x,b,h1⟩:=VI hl a;obtain⟨y,f,i⟩:=VO hl a;exact⟨x,y,b,f,W9 g (W_ b) (Xa f) fun z=>(h1 z).trans (i z).symm⟩
theorem FN {y:List Bs}{x z:Bs}:z∈fF y x↔z∈y\/z=x:=by
 unfold fF;by_cases h:y.contains x=true
 ·rw [if_pos h];have hm:x∈y:=by simpa using h
  exact⟨Or.inl,fun h=>by rcases h with h|rfl<;>assumption⟩
 ·rw [if_neg h]; simp
def od:List Bs->List Bs->Bool
 | _,[]=>false
 | seen,x::r=>seen.contains x||od (seen++[x]) r
theorem LU:∀(l y seen:List Bs),(∀z,z∈y↔z∈seen)->pJ l y=if od seen l then Sum.inr true else Sum.inl ()
 | [],_,_,_=>rfl
 | x::r,y,seen,h=>by
  rw [pJ,od];have hc:y.contains x=seen.contains x:=by rw [Bool.eq_iff_iff]; simp [h x]
  simp only [Ab.on,hc];cases seen.contains x
  ·rw [cond_false,Bool.false_or];exact LU r (fF y x) (seen++[x]) (fun z=>by rw [FN,h z]; simp)
  ·rfl
theorem Xb (s:Sl Bs):tC s=od [] s.l:=by
 unfold tC;rw [LU s.l [] [] (fun _=>Iff.rfl)];simp only [Ab.on];cases od [] s.l<;>rfl
theorem LV (a:Sl Bs) (x:Bs):∀(m i:Nat),i+m<=a.l.length->kY a x m i=some (if ((a.l.drop i).take m).contains x then Sum.inr true else Sum.inl ())
 | 0,i,_=>by rw [kY]; simp
 | m+1,i,h=>by
  have hi:i<a.l.length:=by omega
  rw [kY,List.getElem?_eq_getElem hi,List.drop_eq_getElem_cons hi,List.take_succ_cons,List.contains_cons];simp only [Ab.on,oB];cases b:x==a.l[i]
  ·rw [cond_false,Bool.false_or]; exact LV a x m (i+1) (by omega)
  ·rfl
theorem LW (a:Sl Bs):∀(l:List Bs) (i:Nat),a.l.drop i=l->i<=a.l.length->kZ a l i=some (if od (a.l.take i) l then Sum.inr true else Sum.inl ())
 | [],_,_,_=>rfl
 | x::r,i,b,hi=>by
  have aY:i<a.l.length:=by
   rcases Nat.lt_or_ge i a.l.length with h|h
   ·exact h
   ·rw [List.drop_of_length_le h] at b; cases b
  rw [List.drop_eq_getElem_cons aY] at b
  injection b with h1 f
  rw [kZ,LV a x i 0 (by omega),od];simp only [List.drop_zero,oB];cases hc:(a.l.take i).contains x
  ·rw [Bool.false_or];simp only [Bool.false_eq_true,if_false,Ab.on];rw [LW a r (i+1) f (by omega),List.take_succ_eq_append_getElem aY,h1]
  ·rfl
theorem Xc (s:Sl Bs):oE s=some (od [] s.l):=by
 have key:∀b:Bool,(match (if b=true then(Sum.inr true:Unit ⊕ Bool) else Sum.inl ()) with|Sum.inl _=>(on (()) fun _=>some false)|Sum.inr f=>(some f))=some b:=by intro b; cases b<;>rfl
 unfold oE;rw [LW s s.l 0 rfl (Nat.zero_le _)];exact key _
theorem LX (k:aa->Option Int):∀(l:List aa) (s:Int),pH k l s=lU k l s
 | [],_=>rfl
 | x::r,s=>by
  rw [pH,lU];simp only [Ab.on]
  congr 1; funext y; congr 1; funext z; exact LX k r z
theorem LY:∀n:Nat,mw n=jr n
 | 0=>rfl
 | n+1=>by funext v; rw [mw,jr,LY n,LX]
theorem Xd (v:aa):yf v=r_ v:=by unfold yf r_; rw [LY]
theorem LZ (k:aa->Option Int):∀(l:List aa) (s:Int),pI k l s=lV k l s
 | [],_=>rfl
 | x::r,s=>by
  rw [pI,lV];simp only [Ab.on]
  congr 1; funext y; exact LZ k r _
theorem L0:∀n:Nat,mz n=js n
 | 0=>rfl
 | n+1=>by funext v; rw [mz,js,L0 n,LZ]
theorem Xe (v:aa):yg v=sg v:=by unfold yg sg; rw [L0]
theorem Xf (n:Nat):decide ((0:Int)<((n:Nat):Int))=!decide (((n:Nat):Int)=(0:Int)):=by
 by_cases h:n=0
 ·subst h; rfl
 ·rw [dT (by omega:(0:Int)<((n:Nat):Int)),dF (by omega:¬((n:Nat):Int)=0)]; rfl
set_option maxHeartbeats 4000000 in
theorem Xg (v:aa):∃b,tD v false=some b/\k7 v false=some b:=by
 unfold tD k7;simp only [Ab.on,Xf,Kx,Xb,Xc];generalize decide (v.aV=(0:Int))=a;generalize decide (v.aV=(1:Int))=a1;generalize (v.aR==([]:Bs))=t;generalize decide (((v.aF.l.length:Nat):Int)=(0:Int))=k;generalize decide (((v.av.l.length:Nat):Int)=(0:Int))=i;generalize decide (((v.aF.l.length:Nat):Int)=((v.av.l.length:Nat):Int))=e;generalize od [] v.aF.l=w
 generalize eE v.aR=nm;generalize (v.aR==([116,114,117,101]:Bs))=t1;generalize (v.aR==([102,97,108,115,101]:Bs))=t2;generalize (v.aR==([110,117,108,108]:Bs))=t3;generalize v.an=f;by_cases h0:f=0
 ·subst h0; cases a<;>cases t<;>cases k<;>cases i<;>exact⟨_,rfl,rfl⟩
 by_cases h1:f=1
 ·subst h1; cases a<;>cases a1<;>cases t<;>cases k<;>cases i<;>exact⟨_,rfl,rfl⟩
 by_cases g:f=2
 ·subst g; cases t<;>cases k<;>cases i<;>exact⟨_,rfl,rfl⟩
 by_cases j:f=3
 ·subst j; cases a<;>cases k<;>cases i<;>exact⟨_,rfl,rfl⟩
 by_cases m:f=4
 ·subst m; cases a<;>cases k<;>cases i<;>cases nm<;>cases t1<;>cases t2<;>cases t3<;>exact⟨_,rfl,rfl⟩
 by_cases o:f=5
 ·subst o; cases a<;>cases t<;>cases k<;>exact⟨_,rfl,rfl⟩
 by_cases p:f=6
 ·subst p; cases a<;>cases t<;>cases e<;>cases w<;>exact⟨_,rfl,rfl⟩
 by_cases q:f=7
 ·subst q; cases a<;>cases t<;>cases k<;>cases i<;>exact⟨_,rfl,rfl⟩
 simp only [dF h0,dF h1,dF g,dF j,dF m,dF o,dF p,dF q];cases a<;>cases t<;>cases k<;>cases i<;>exact⟨_,rfl,rfl⟩
theorem L1:∀l:List Bs,k8 false l=Sum.inl ()
 | []=>rfl
 | _::r=>by rw [k8]; exact L1 r
theorem L2 {f:aa->Option Bool}{k:aa->Bool->Option Bool}:∀(l:List aa) (s:Nat),(∀x∈l,∃b,f x=some (!b)/\k x false=some b) ->
  ∃(b:Bool) (j:Nat),q7 f l s=some (if b then Sum.inl () else Sum.inr (j:Int))/\iz false k l=some (if b then Sum.inl () else Sum.inr false)
 | [],_,_=>⟨true,0,rfl,rfl⟩
 | x::r,s,h=>by
  obtain⟨b,g,i⟩:=h x List.mem_cons_self;rw [q7,iz];simp only [Ab.on,g,i,oB,Bool.not_not];cases b
  ·exact⟨false,s,rfl,rfl⟩
  ·exact L2 r (s+1) fun y m=>h y (List.mem_cons_of_mem _ m)
theorem L3:∀(n:Nat) (v:aa),v.sz<n->∀m m',2*n<=m->n<=m'->∃b,pK m v false=some b/\fJ m' v false=some b
 | 0,_,h,_,_,_,_=>by omega
 | n+1,v,h,m,m',hm,q=>by
  obtain⟨m1,rfl⟩:∃m1,m=m1+1+1:=⟨m-2,by omega⟩;obtain⟨m2,rfl⟩:∃m2,m'=m2+1:=⟨m'-1,by omega⟩;rw [pK,fJ];obtain⟨b,g,i⟩:=Xg v;rw [g,i,oB,oB];cases b
  ·exact⟨false,rfl,rfl⟩
  ·obtain⟨b,j,f1,f2⟩:=L2 (f:=fun o=>q8 (m1+1) o false) (k:=fJ m2) v.av.l 0 fun x p=>by
    obtain⟨b,g1,g2⟩:=L3 n x (by have:=aa.jG p; omega) m1 m2 (by omega) (by omega);exact⟨b,by rw [q8,g1]; rfl,g2⟩
   simp only [aN,if_true,Ab.on,L1,Bool.not_true,cond_false,f2,oB];unfold yl yj;rw [f1];cases b
   ·refine⟨false, ?_,rfl⟩;simp
   ·exact⟨true,rfl,rfl⟩
theorem Xh {v:aa}(h:v.sz<=1048576):∃b,q_ v=some b/\mD v=some b:=by
 obtain⟨r,hr,_⟩:=JL v h;obtain⟨p,g⟩:=JM v h;obtain⟨b,i,j⟩:=L3 (v.sz+1) v (nS _) F0 F0 (by rw [dM]; omega) (by rw [dM]; omega);unfold q_ mD CL wZ;rw [Xd,Xe,hr,g,i,j,oB];by_cases h1:r<=(4096:Int)
 ·by_cases f:p<=(24:Int)
  ·simp only [dT h1,dT f,aN,if_true,oB,Bool.and_self]; exact⟨_,rfl,rfl⟩
  ·simp only [dT h1,dF f,aN,if_true,oB,Bool.and_false,Bool.false_eq_true,if_false]; exact⟨_,rfl,rfl⟩
 ·simp only [dF h1,aN,Bool.false_and,Bool.false_eq_true,if_false]; exact⟨_,rfl,rfl⟩
theorem Xi {x:Z8}(b:x.sz<=1048576) (hw:x.wf):ua 1048577 x:=by
 have h:=x.bM;exact⟨vU hw.2.1 (by omega),Wv.of 1048577 x.dy (by omega) (by omega) (Z8.O6 hw)⟩
theorem Xj {d:aq}(g:d.sz<=1048576) (hw:d.wf):Lv 1048577 d:=by
 intro nm;rw [j8];rcases sA d.aA.l nm with e|e
 ·rw [e]; exact⟨fun h hh=>(by cases hh),by decide⟩
 ·have h1:=(bQ d.aA.l nm).1.bM; have i:=d.bM; have j:=Sl.dV (f:=ax.sz) e;have w:=(aq.GK hw).2.2 _ e;have k:=Sl.dN (f:=Z8.sz) (bQ d.aA.l nm).1.bl Z8.pos;exact⟨fun x b=>Xi (by have:=Sl.dV (f:=Z8.sz) b; omega) ((ax.O8 w).2.2 x b),by omega⟩
theorem Xk:Wv 1048577 aa.zero:=tZ.mono (by omega)
theorem Xl {d:aq}(b:d.sz<=1048576) (hw:d.wf){t:az}(ht:fH t.aK){v:aa}(f:v.sz<=1048576) (g:v.wf):∃x e,nT d t v=some (x,e):=by
 unfold nT;obtain⟨x,e,c',h1,k,i⟩:=EF (N:=1048576) (by omega) (Xj b hw) 24 1 (by omega) (by omega) F0 (by rw [dM]; omega) ⟨d,aa.zero,false,0⟩ t v ⟨rfl,Xk,by show (0:Int)<=0; decide,by show (0:Int)<=4096; decide⟩ ht (Wv.of 1048577 v (by omega) f g);rw [show vm (Z0.mk d aa.zero false (0:Int)) t v (1:Int)=some (x,e,c') from h1,oB];unfold mu;simp only
 cases (!decide (e=(0:Int)))
 ·obtain⟨r,j,-⟩:=Lm (n:=i_ (1048576+1) 1) (by unfold i_; omega) i;rw [cond_false,j];exact⟨_,_,rfl⟩
 ·exact⟨_,_,rfl⟩
theorem Xm {d:aq}(b:d.sz<=1048576) (hw:d.wf){t:az}(ht:t.aK.l.length<=1048576){v:aa}(f:v.sz<=1048576) (g:v.wf):∃x e,mC d t v=some (x,e):=by
 obtain⟨⟨x,e⟩,h⟩:=W3 (LG hw b) (VW.of f g) ht;exact⟨x,e,h⟩
theorem L4 {v w:aa}{rec:aa->aa->Option Int}{k:Int->Int->Option Int}{n:Nat}(hk:∀z,k z 1=some z) (r:∀x∈v.av.l,∀y∈w.av.l,∃c,rec x y=some c/\(c=0↔jJ n x y)) (hl:w.av.l.length<=1048576) :
  ∀(f i:Nat),i<=min v.av.l.length w.av.l.length->min v.av.l.length w.av.l.length-i<f ->
   ∃c,s_ v w 0 k rec f (i:Int)=some c/\(c=0↔(v.av.l.length=w.av.l.length/\∀j,i<=j->j<v.av.l.length->AtR (jJ n) v w j))
 | 0,_,_,h=>by omega
 | f+1,i,h1,F=>by
  have hm:(if ((w.av.l.length:Nat):Int)<((v.av.l.length:Nat):Int) then((w.av.l.length:Nat):Int) else((v.av.l.length:Nat):Int))=((min v.av.l.length w.av.l.length:Nat):Int):=by split<;>omega
  rw [s_,hm];by_cases hi:i<min v.av.l.length w.av.l.length
  ·have k1:i<v.av.l.length:=by omega
   have k2:i<w.av.l.length:=by omega
   have u:bV v.av.l (i:Int)=some v.av.l[i]:=by unfold bV; rw [if_pos (by omega),Int.toNat_natCast,List.getElem?_eq_getElem k1]
   have B:bV w.av.l (i:Int)=some w.av.l[i]:=by unfold bV; rw [if_pos (by omega),Int.toNat_natCast,List.getElem?_eq_getElem k2]
   have C:bG (i:Int) 1=some ((i+1:Nat):Int):=by rw [eH (by omega)]; rfl
   rw [dT (by omega:((i:Nat):Int)<((min v.av.l.length w.av.l.length:Nat):Int)),cond_true,EK,oB,EK,oB,show vg (v.aF.l.getD i []) (w.aF.l.getD i [])=some (Lib.compareBytes (v.aF.l.getD i []) (w.aF.l.getD i [])) from rfl,oB];have hc:=EI (v.aF.l.getD i []) (w.aF.l.getD i []);by_cases m:Lib.compareBytes (v.aF.l.getD i []) (w.aF.l.getD i [])=0
   ·rw [dT m,Bool.not_true,cond_false,u,oB,B,oB];obtain⟨c,q,o⟩:=r _ (List.getElem_mem k1) _ (List.getElem_mem k2);rw [q,oB];by_cases c1:c=0
    ·rw [dT c1,Bool.not_true,cond_false,C,oB];obtain⟨z,E,z2⟩:=L4 hk r hl f (i+1) (by omega) (by omega);refine⟨z,E,z2.trans ⟨fun⟨g,b⟩=>⟨g,fun j s p=>?_⟩,fun⟨g,b⟩=>⟨g,fun j s p=>b j (by omega) p⟩⟩⟩;rcases Nat.lt_or_ge i j with t|t
     ·exact b j t p
     ·obtain rfl:j=i:=by omega
      exact⟨hc.1 m,_,_,List.getElem?_eq_getElem k1,List.getElem?_eq_getElem k2,o.1 c1⟩
    ·rw [dF c1,Bool.not_false,cond_true];refine⟨c,rfl,⟨fun h=>absurd h c1,fun⟨g,b⟩=>?_⟩⟩;obtain⟨_,x,y,g1,g2,g3⟩:=b i (Nat.le_refl _) k1;rw [List.getElem?_eq_getElem k1] at g1; rw [List.getElem?_eq_getElem k2] at g2;cases g1; cases g2;exact o.2 g3
   ·rw [dF m,Bool.not_false,cond_true];refine⟨_,rfl,⟨fun h=>absurd h m,fun⟨g,b⟩=>hc.2 (b i (Nat.le_refl _) k1).1⟩⟩
  ·rw [dF (by omega:¬((i:Nat):Int)<((min v.av.l.length w.av.l.length:Nat):Int)),cond_false];obtain⟨c,q,o⟩:=EJ ((v.av.l.length:Nat):Int) ((w.av.l.length:Nat):Int);unfold xW xV;rw [q,oB,eH (by omega),oB];refine⟨c,hk c,o.trans ⟨fun h=>⟨by omega,fun j s p=>by omega⟩,fun⟨h,_⟩=>by rw [h]⟩⟩
theorem Xn (n:Nat):∀v w:aa,w.sz<n->w.sz<=1048576->∃c,iD n v w=some c/\(c=0↔jJ n v w):=by
 induction n with
 | zero=>intro v w h; omega
 | succ n p =>
  intro v w hn q;have r:=w.bM;have hi:Sl.sz aa.sz w.av=1+(w.av.l.map aa.sz).sum:=rfl;have hl:=Sl.dN (f:=aa.sz) w.av (fun x=>x.pos);obtain⟨m,hm⟩:∃m,F0=m+1+1:=⟨F0-2,by rw [dM]⟩;rw [iD,show kG v w (iD n) F0 0 0=kG v w (iD n) (m+1+1) 0 0 from by rw [<- hm],kG,show decide ((0:Int)<1)=true from rfl,cond_true];by_cases c1:v.an=w.an
  ·rw [dT c1,Bool.not_true,cond_false];by_cases c2:v.aV=w.aV
   ·rw [dT c2,Bool.not_true,cond_false];by_cases c3:v.aR=w.aR
    ·rw [beq_iff_eq.mpr c3,Bool.not_true,cond_false];obtain⟨c,b,g⟩:=L4 (v:=v) (w:=w) (rec:=iD n) (k:=kG v w (iD n) (m+1)) (n:=n) (fun z=>by rw [kG,show decide ((1:Int)<1)=false from rfl,cond_false]; rfl)
      (fun x _ y o=>p x y (by have:=aa.jG o; omega) (by have:=aa.jG o; omega)) (by omega) F0 0 (Nat.zero_le _) (by rw [dM]; omega)
     exact⟨c,b,g.trans ⟨fun⟨i,j⟩=>⟨c1,c2,c3,i,j⟩,fun⟨_,_,_,i,j⟩=>⟨i,j⟩⟩⟩
    ·rw [show (v.aR==w.aR)=false from beq_eq_false_iff_ne.mpr c3,Bool.not_false,cond_true,show vg v.aR w.aR=some (Lib.compareBytes v.aR w.aR) from rfl,oB];exact⟨_,rfl,⟨fun h=>absurd ((EI _ _).1 h) c3,fun⟨_,_,h,_⟩=>absurd h c3⟩⟩
   ·obtain⟨c,b,g⟩:=EJ v.aV w.aV;rw [dF c2,Bool.not_false,cond_true,b,oB];exact⟨c,rfl,⟨fun h=>absurd (g.1 h) c2,fun⟨_,h,_⟩=>absurd h c2⟩⟩
  ·obtain⟨c,b,g⟩:=EJ v.an w.an;rw [dF c1,Bool.not_false,cond_true,b,oB];exact⟨c,rfl,⟨fun h=>absurd (g.1 h) c1,fun⟨h,_⟩=>absurd h c1⟩⟩
theorem EQ {v w:aa}{rec:aa->aa->Option Int}{n:Nat}(p:∀x∈v.av.l,∀y∈w.av.l,∃c,rec x y=some c/\(c=0↔jJ n x y)) (hl:w.av.l.length<=1048576) :
  ∀(f i:Nat) (c:Int),i<=min v.av.l.length w.av.l.length->min v.av.l.length w.av.l.length-i<f ->
   ∃z,pN v w rec f c (i:Int)=some z/\(z=0↔(c=0/\v.av.l.length=w.av.l.length/\∀j,i<=j->j<v.av.l.length->AtR (jJ n) v w j))
 | 0,_,_,_,h=>by omega
 | f+1,i,c,h1,H=>by
  rw [pN];by_cases hc:c=0
  ·rw [dT hc,cond_true];by_cases hi:i<min v.av.l.length w.av.l.length
   ·have k1:i<v.av.l.length:=by omega
    have k2:i<w.av.l.length:=by omega
    have C:bV v.av.l (i:Int)=some v.av.l[i]:=by unfold bV; rw [if_pos (by omega),Int.toNat_natCast,List.getElem?_eq_getElem k1]
    have E:bV w.av.l (i:Int)=some w.av.l[i]:=by unfold bV; rw [if_pos (by omega),Int.toNat_natCast,List.getElem?_eq_getElem k2]
    have s:bG (i:Int) 1=some ((i+1:Nat):Int):=by rw [eH (by omega)]; rfl
    have g:(decide (((v.av.l.length:Nat):Int)<=(i:Int))||decide (((w.av.l.length:Nat):Int)<=(i:Int)))=false:=by
     rw [Bool.or_eq_false_iff,decide_eq_false_iff_not,decide_eq_false_iff_not]; omega
    rw [g,cond_false,LJ,oB,LJ,oB,I8,oB];have hk:=LI (v.aF.l.getD i []) (w.aF.l.getD i []);by_cases k:pM (v.aF.l.getD i []) (w.aF.l.getD i [])=0
    ·rw [dT k,cond_true,C,oB,E,oB];obtain⟨d,F,t⟩:=p _ (List.getElem_mem k1) _ (List.getElem_mem k2);rw [F,oB];unfold tL;rw [s,oB];obtain⟨z,q,z2⟩:=EQ p hl f (i+1) d (by omega) (by omega);refine⟨z,q,z2.trans ⟨fun⟨r,m,b⟩=>⟨hc,m,fun j u o=>?_⟩,fun⟨_,m,b⟩=>⟨?_,m,fun j u o=>b j (by omega) o⟩⟩⟩
     ·rcases Nat.lt_or_ge i j with B|B
      ·exact b j B o
      ·obtain rfl:j=i:=by omega
       exact⟨hk.1 k,_,_,List.getElem?_eq_getElem k1,List.getElem?_eq_getElem k2,t.1 r⟩
     ·obtain⟨_,x,y,g1,g2,g3⟩:=b i (Nat.le_refl _) k1;rw [List.getElem?_eq_getElem k1] at g1; rw [List.getElem?_eq_getElem k2] at g2;cases g1; cases g2;exact t.2 g3
    ·rw [dF k,cond_false];unfold tL;rw [s,oB];obtain⟨z,q,z2⟩:=EQ p hl f (i+1) (pM (v.aF.l.getD i []) (w.aF.l.getD i [])) (by omega) (by omega);exact⟨z,q,z2.trans ⟨fun⟨r,_⟩=>absurd r k,fun⟨_,m,b⟩=>absurd (hk.2 (b i (Nat.le_refl _) k1).1) k⟩⟩
   ·have g:(decide (((v.av.l.length:Nat):Int)<=(i:Int))||decide (((w.av.l.length:Nat):Int)<=(i:Int)))=true:=by
     rw [Bool.or_eq_true,decide_eq_true_eq,decide_eq_true_eq]; omega
    rw [g,cond_true,CR,oB];have G:=EL ((v.av.l.length:Nat):Int) ((w.av.l.length:Nat):Int);exact⟨_,rfl,G.trans ⟨fun h=>⟨hc,by omega,fun j u o=>by omega⟩,fun⟨_,h,_⟩=>by rw [h]⟩⟩
  ·rw [dF hc,cond_false];exact⟨c,rfl,⟨fun h=>absurd h hc,fun⟨h,_⟩=>h⟩⟩
theorem Xo (n:Nat):∀v w:aa,w.sz<n->w.sz<=1048576->∃c,iN n v w=some c/\(c=0↔jJ n v w):=by
 induction n with
 | zero=>intro v w h; omega
 | succ n o =>
  intro v w hn p;have q:=w.bM;have hi:Sl.sz aa.sz w.av=1+(w.av.l.map aa.sz).sum:=rfl;have hl:=Sl.dN (f:=aa.sz) w.av (fun x=>x.pos);have i:∀c:Int,∃z,vB v w (iN n) c=some z/\(z=0↔(c=0/\v.av.l.length=w.av.l.length/\∀j,0<=j->j<v.av.l.length->AtR (jJ n) v w j)):=fun c =>
   EQ (v:=v) (w:=w) (rec:=iN n) (n:=n) (fun x _ y k=>o x y (by have:=aa.jG k; omega) (by have:=aa.jG k; omega)) (by omega) F0 0 c (Nat.zero_le _) (by rw [dM]; omega)
  have m:∀c:Int,∃z,tM v w (iN n) c=some z/\(z=0↔(c=0/\v.aR=w.aR/\v.av.l.length=w.av.l.length/\∀j,0<=j->j<v.av.l.length->AtR (jJ n) v w j)):=by
   intro c;unfold tM;by_cases hc:c=0
   ·rw [dT hc,cond_true,I8,oB];obtain⟨z,g,z2⟩:=i (pM v.aR w.aR);exact⟨z,g,z2.trans (by rw [LI]; exact⟨fun⟨a,b⟩=>⟨hc,a,b⟩,fun⟨_,a,b⟩=>⟨a,b⟩⟩)⟩
   ·rw [dF hc,cond_false];obtain⟨z,g,z2⟩:=i c;exact⟨z,g,z2.trans ⟨fun⟨a,_⟩=>absurd a hc,fun⟨a,_⟩=>absurd a hc⟩⟩
  rw [iN,CR,oB];have hk:=EL v.an w.an;have hn:=EL v.aV w.aV;by_cases c1:pL v.an w.an=0
  ·rw [dT c1,cond_true,CR,oB];obtain⟨z,g,z2⟩:=m (pL v.aV w.aV);exact⟨z,g,z2.trans ⟨fun⟨a,b,c,d⟩=>⟨hk.1 c1,hn.1 a,b,c,d⟩,fun⟨_,a,b,c,d⟩=>⟨hn.2 a,b,c,d⟩⟩⟩
  ·rw [dF c1,cond_false];obtain⟨z,g,z2⟩:=m (pL v.an w.an);exact⟨z,g,z2.trans ⟨fun⟨a,_⟩=>absurd a c1,fun⟨a,_⟩=>absurd (hk.2 a) c1⟩⟩
theorem Xp {v w:aa}(hw:w.sz<=1048576):∃b,pz v w=some b/\(b=true↔jJ F0 v w):=by
 obtain⟨c,f,g⟩:=Xn F0 v w (by rw [dM]; omega) hw;exact⟨decide (c=0),by unfold pz Cj; rw [f]; rfl,by rw [decide_eq_true_iff]; exact g⟩
theorem Xq {v w:aa}(hw:w.sz<=1048576):∃b,ri v w=some b/\(b=true↔jJ F0 v w):=by
 obtain⟨c,f,g⟩:=Xo F0 v w (by rw [dM]; omega) hw;exact⟨decide (c=0),by unfold ri CW; rw [f]; rfl,by rw [decide_eq_true_iff]; exact g⟩
theorem ER:∀(n m:Nat){x y v:aa},Rl m x y->(jJ n x v↔jJ n y v)
 | 0,_,_,_,_,_=>Iff.rfl
 | _+1,0,_,_,_,h=>h.elim
 | n+1,m+1,x,y,v,⟨h1,o,r,s,_,_,_,_,b⟩=>by
  have hl:=b.length;constructor
  ·rintro ⟨a1,a2,a3,a4,a5⟩;refine⟨h1▸a1,o.1▸a2,r▸a3,hl▸a4,fun j h0 t=>?_⟩;obtain⟨k,p,q,k1,k2,f⟩:=a5 j h0 (by omega);obtain⟨g,i,l⟩:=b.get k1;exact⟨by rw [<- s]; exact k,g,q,i,k2,(ER n m l).1 f⟩
  ·rintro ⟨a1,a2,a3,a4,a5⟩;refine⟨h1.trans a1,o.1.trans a2,r.trans a3,hl.trans a4,fun j h0 t=>?_⟩;obtain⟨k,p,q,k1,k2,f⟩:=a5 j h0 (by omega);obtain⟨g,i,l⟩:=b.get' k1;exact⟨by rw [s]; exact k,g,q,i,k2,(ER n m l).2 f⟩
theorem Xr {d:aq}(p:iA d=some true) (i:d.sz<=1048576) (hw:d.wf){t:az}(k:t.wf) (ts:t.sz<=1048576){v:aa}(f:v.sz<=1048576) (j:v.wf) :
  ∃x e y g b c c',nT d t v=some (x,e)/\mC d t v=some (y,g)/\q_ v=some b/\mD v=some b/\pz x v=some c/\ri y v=some c'/\(b=true->e=g/\c=c'):=by
 obtain⟨b,q,l⟩:=Xh f;obtain⟨x,e,i1⟩:=Xl (t:=t) i hw (vU k ts) f j;obtain⟨y,g,i2⟩:=Xm (t:=t) i hw (by have:=az.pR t; omega) f j;obtain⟨c,c1,c2⟩:=Xp (v:=x) f;obtain⟨c',d1,d2⟩:=Xq (v:=y) f;refine⟨x,e,y,g,b,c,c',i1,i2,q,l,c1,d1,fun r=>?_⟩;subst r;obtain⟨s,u,w,m,o,hr⟩:=Ws (N:=nB) WH (WE p hw i) (vU k ts) (WB l j f)
 rw [i1] at m; rw [i2] at o;cases m; cases o;refine⟨rfl, ?_⟩;rw [Bool.eq_iff_iff,c2,d2];exact ER F0 _ hr
theorem Xs {l:List Z8}{s:Bs}(h:∀y∈l,y.ai≠s):(nV l s).2=false:=by
 unfold nV;rw [List.find?_eq_none.2 (fun y b=>by simpa using h y b)]
theorem fu {α:Type}(l:List α) (i:Nat):bV l (i:Int)=l[i]?:=by unfold bV; rw [if_pos (by omega)]; simp
set_option maxHeartbeats 1000000 in
theorem ES {d:aq}(j:iA d=some true) (m:d.sz<=1048576) (hw:d.wf){a1:Sl Z8}(f:gR Z8.ai a1.l) (p:∀x∈a1.l,x.wf/\x.sz<=1048576){a2:Sl aD}(q:∀x∈a2.l,x.wf/\x.sz<=1048576) (s:a2.l.length<=1048576) :
  ∀(l:List Z8) (i k:Nat),a1.l.drop i=l->k<=a2.l.length->∃o,mA d a1 a2 l i (k:Int)=some o/\mF d a2 l (k:Int)=some o
 | [],_,_,_,_=>⟨_,rfl,rfl⟩
 | x::r,i,k,g,hk=>by
  have aY:i<a1.l.length:=by
   rcases Nat.lt_or_ge i a1.l.length with h|h
   ·exact h
   ·rw [List.drop_of_length_le h] at g; cases g
  rw [List.drop_eq_getElem_cons aY] at g
  injection g with h1 t
  have B:x∈a1.l:=h1▸List.getElem_mem aY;obtain⟨C,xs⟩:=p x B;have E:(iV (⟨a1.nl,a1.l.take i⟩:Sl Z8) x.ai).2=false:=by
   rw [yV];refine Xs fun y F=>?_;unfold gR at f;rw [<- List.take_append_drop i a1.l,List.pairwise_append,List.drop_eq_getElem_cons aY,h1] at f;exact f.2.2 y F x List.mem_cons_self
  have G:=ES j m hw f p q s r (i+1) k t hk;have S:=x.bM;have other:∃o,(bif ((gq x.aJ)||x.c_) then(some (Sum.inr false)) else mA d a1 a2 r (i+1) (k:Int))=some o /\
    (bif (x.c_||(bif !x.c_ then fh (bif !x.c_ then x else Z8.zero).aJ else false)) then(some (Sum.inr false)) else mF d a2 r (k:Int))=some o:=by
   have H:fh x.aJ=gq x.aJ:=by rw [vQ,yW]
   cases x.c_
   ·simp only [Bool.or_false,Bool.not_false,cond_true,Bool.false_or,H];cases gq x.aJ
    ·exact G
    ·exact⟨_,rfl,rfl⟩
   ·simp only [Bool.or_true,Bool.true_or,cond_true];exact⟨_,rfl,rfl⟩
  rw [mA,mF];simp only [Ab.on,E,cond_false];by_cases u:k<a2.l.length
  ·have I:a2.l[k]?=some a2.l[k]:=List.getElem?_eq_getElem u;obtain⟨J,U⟩:=q _ (List.getElem_mem u);have W:=(a2.l[k]).bM;obtain⟨y,e,X,K,b,c,c',i1,i2,w,z,L,M,N⟩:=Xr j m hw (Z8.Ak C) (by omega) (v:=(a2.l[k]).eU) (by omega) (aD.O5 J);simp only [dT (by omega:((k:Nat):Int)<((a2.l.length:Nat):Int)),fu,I,aN,if_true,oB,Bool.true_and,cond_true]
   cases hn:(a2.l[k]).ai==x.ai
   ·simp only [cond_false];exact other
   ·have O:bG (k:Int) 1=some ((k+1:Nat):Int):=by rw [eH (by omega)]; rfl
    have P:=ES j m hw f p q s r (i+1) (k+1) t (by omega);simp only [cond_true,i1,i2,oB,O];cases b
    ·refine⟨Sum.inr false, ?_, ?_⟩
     ·by_cases he:e=0
      ·simp [he,w]
      ·simp [he]
     ·by_cases he:K=0
      ·simp [he,z]
      ·simp [he]
    ·obtain⟨Q,R⟩:=N rfl;subst Q R;by_cases he:e=0
     ·simp only [he,decide_true,Bool.not_true,Bool.not_false,if_true,w,z,oB,Bool.or_false,L,M,Bool.false_or];cases c
      ·exact⟨_,rfl,rfl⟩
      ·exact P
     ·simp only [dF he,Bool.not_false,Bool.not_true,Bool.false_eq_true,if_false,Bool.true_or,cond_true];exact⟨_,rfl,rfl⟩
  ·simp only [dF (by omega:¬((k:Nat):Int)<((a2.l.length:Nat):Int)),aN,Bool.false_eq_true,if_false,Bool.false_and,cond_false];exact other
theorem L5 {d:aq}(f:iA d=some true) (g:d.sz<=1048576) (hw:d.wf){a1:Sl Z8}(i:gR Z8.ai a1.l) (j:∀x∈a1.l,x.wf/\x.sz<=1048576){a2:Sl aD}(k:∀x∈a2.l,x.wf/\x.sz<=1048576) (m:a2.l.length<=1048576) :
  ∃b,rf d a1 a2=some b/\rm d a1 a2=some b:=by
 obtain⟨o,p,q⟩:=ES f g hw i j k m a1.l 0 0 rfl (Nat.zero_le _);unfold rf rm;rw [show (0:Int)=((0:Nat):Int) from rfl,p,q];cases o<;>exact⟨_,rfl,rfl⟩
theorem gS {β:Type}(c:Bool) (z:Bool) (k:Bool->Option β):aN c (some z) false k=k (c&&z):=by cases c<;>rfl
theorem Xt {k:Bs}(h:(k==([95,95,116,121,112,101,110,97,109,101]:Bs))=true):eE k=true/\nQ k=true:=by
 rw [beq_iff_eq] at h; subst h;exact⟨by decide +kernel,by decide +kernel⟩
theorem Xu:vc=some rj:=by kernel_rfl
theorem Xv (s:Bs):qY s=some (eE s&&!nQ s):=by
 unfold qY;rw [Kx,oB];simp only [Ab.on];cases eE s<;>rfl
theorem L6 (s:Bs):∀l:List Z6,iK s l=mo s l
 | []=>rfl
 | x::r=>by rw [iK,mo,L6 s r]; rfl
theorem Xw (t:ax) (s:Bs):gm t s=kF t s:=by
 unfold gm kF;rw [L6];rfl
theorem Xx (l:List Z6) (s:Bs):(tX l s).1=Z6.zero\/(tX l s).1∈l:=by
 unfold tX;cases e:l.find? (fun t=>t.ai==s) with
 | none=>exact .inl rfl
 | some t=>exact .inr (List.mem_of_find?_eq_some e)
theorem Pz {d:aq}(o:iA d=some true) (q:d.sz<=1048576) (hw:d.wf) (y:∀t∈d.aA.l,∀f∈t.bC.l,gR Z8.ai f.aO.l){p:aj}(r:p.wf) (ps:p.sz<=1048576) :
  ∃b,tG d p=some b/\tV d p=some b:=by
 have H:=p.bM;have I:=Sl.dN (f:=aD.sz) p.aO aD.pos;have z:fH p.aJ.aK:=vU (aj.Ak r) (by omega);have B:=Ks z;have C:=KE (t:=p.aJ) (by have:=az.pR p.aJ; omega);obtain⟨A,a1,a2⟩:∃b,rf d (kF (eL d p.bR).1 p.ai).1.aO p.aO=some b/\rm d (kF (eL d p.bR).1 p.ai).1.aO p.aO=some b:=by
  have s:∀x∈p.aO.l,x.wf/\x.sz<=1048576:=fun x g=>⟨(aj.Al r).2.2 x g,by have:=Sl.dV (f:=aD.sz) g; omega⟩;rw [Vw,j8];rcases Xx (bQ d.aA.l p.bR).1.bC.l p.ai with e|e
  ·rw [e];exact L5 o q hw (a1:=Z6.zero.aO) List.Pairwise.nil (fun x g=>by cases g) s (by omega)
  ·rcases sA d.aA.l p.bR with i|i
   ·rw [i] at e; cases e
   ·have h1:=(bQ d.aA.l p.bR).1.bM; have J:=d.bM; have K:=Sl.dV (f:=ax.sz) i;have L:=(tX (bQ d.aA.l p.bR).1.bC.l p.ai).1.bM; have M:=Sl.dV (f:=Z6.sz) e;have w:=(aq.GK hw).2.2 _ i;have E:=(ax.O7 w).2.2 _ e;exact L5 o q hw (y _ i _ e) (fun x g=>⟨(Z6.Al E).2.2 x g,by have:=Sl.dV (f:=Z8.sz) g; omega⟩) s (by omega)
 unfold tG tV;simp only [Ab.on,B,C,gS,Xv,Vy,Xu,oB,VP,VQ,Xw,AN,<- j8,a1,a2,KN];generalize ((decide (p.dR<(-1:Int)))||((decide ((0:Int)<=p.dR))&&(!((!(decide (p.dR<(-1:Int)))&&(decide ((0:Int)<=p.dR)))&&iY (eW p.aJ.aK).l))))=F;have hk:=@Xt p.bF
 revert hk
 generalize (p.bF==([95,95,116,121,112,101,110,97,109,101]:Bs))=j;generalize eE p.bF=N;generalize nQ p.bF=R;rw [KM rj p.aJ];generalize nX p.aJ rj=u;generalize nX p.aJ (kF (eL d p.bR).1 p.ai).1.aJ=k;generalize (kF (eL d p.bR).1 p.ai).2=m;generalize (decide (((p.aO.l.length:Nat):Int)=(0:Int)))=v;generalize (decide (((p.bE.l.length:Nat):Int)=(0:Int)))=z2
 generalize lB d p.aJ.ai=G;intro hk;cases F
 ·simp only [cond_false];cases (p.ai==([95,95,116,121,112,101,110,97,109,101]:Bs))
  ·simp only [cond_false];cases N
   ·cases m<;>cases k<;>exact⟨_,rfl,rfl⟩
   ·cases R
    ·cases j<;>cases m<;>cases k<;>cases A<;>cases z2<;>cases G<;>exact⟨_,rfl,rfl⟩
    ·cases j<;>cases m<;>cases k<;>exact⟨_,rfl,rfl⟩
  ·simp only [cond_true];cases j
   ·cases N<;>cases R<;>cases u<;>cases v<;>cases z2<;>exact⟨_,rfl,rfl⟩
   ·obtain⟨rfl,rfl⟩:=hk rfl;cases u<;>cases v<;>cases z2<;>exact⟨_,rfl,rfl⟩
 ·exact⟨_,rfl,rfl⟩
end Go.Proofs
