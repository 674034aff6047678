import Derived.Test.YtdlobimnfmjonaaGreatDoorV11
import Derived.Test.YtdlobimnfmjonaaGreatDoorRows
set_option maxRecDepth 100000
set_option maxHeartbeats 2000000
set_option linter.unusedVariables false
set_option linter.unusedSimpArgs false
namespace Go.Proofs
open Go Go.Ab
theorem LC {d:ak}(g:Gd d) (k:d.sz<=1048576):vt d:=by
 intro n hn x hx;cases b:tV d n
 ·rw [vb b] at hx; cases hx
 ·obtain⟨h1,j⟩:=KZ b;refine⟨(Fl (g.f _ h1) (by rw [j]; exact hn)).i x hx, ?_⟩;have a1:=d.bt;have a2:=Sl.de (f:=ah.sz) h1;have a3:=(bl d.aj.l n).1.bt;have a4:=Sl.de (f:=Z7.sz) hx;have a5:=x.bt;have m:=x.av.s_;omega
theorem Uy {d:ak}(j:vt d){t:aL}{v x y:Z9}{a b:Int}(ht:Rd d t.aa) (hw:t.aH.l.length<=1048576) (e:oE d t v iS=some (x,a)) (f:oE (dy d) t (cn v) iS=some (y,b)):b=a:=by
 have hv:=Nz.cp v;unfold oE at e f;simp only [on] at e f;rw [K0 ht] at f;rw [Fq rfl] at e f;rw [<- hv.kind] at f;have run:∀{x y:Z9}{a b:Int},((rf (Z3.mk d iS true 0 0) t v).bind fun g=>some (g.1,g.2.1))=some (x,a)->((rf (Z3.mk (dy d) iS true (0:Int) (0:Int)) t (cn v)).bind fun g=>some (g.1,g.2.1))=some (y,b)->b=a:=by
  intro x y a b e f;obtain⟨r,f1,e⟩:=bx e;obtain⟨p,f2,f⟩:=bx f;cases e; cases f;unfold rf B7 at f1 f2;obtain⟨u,k,f1⟩:=bx f1;obtain⟨u',m,f2⟩:=bx f2;have h:=(LB j F0).1 (c:=Z3.mk d iS true 0 0) (c':=Z3.mk (dy d) iS true 0 0) ⟨rfl,rfl,rfl,rfl,rfl,rfl,rfl⟩ hv ht hw k m;rw [h.er] at f2;cases h0:decide (u.2.dh=0)
  ·rw [h0] at f1 f2; cases f1; cases f2; rfl
  ·rw [h0] at f1 f2; cases f1; cases f2; rfl
 cases hi:jN d t.aa
 ·rw [hi] at e f;exact run e f
 ·rw [hi] at e f;simp only [aZ,if_true,oB,Bool.true_and] at e f;cases hq:(!((!true)||(!decide (v.ai=(7:Int)))))
  ·rw [hq,cond_false] at e;rw [hq,cond_false] at f;exact run e f
  ·rw [hq,cond_true] at e;rw [hq,cond_true] at f;cases e; cases f; rfl
theorem Rl.cp:∀(n:Nat) (v:Z9),Rl n v v->Rl n (cn v) (cn v)
 | 0,_,h=>h.elim
 | n+1,v,⟨_,b,_,_,e,f,g,i,k⟩=>by
  rw [oF];refine⟨rfl,⟨rfl,b.2⟩,rfl,rfl,e,f, ?_,fun hk=>?_, ?_⟩
  ·show (v.aB.l.map cn).length<=bB;rw [List.length_map]; exact g
  ·obtain⟨i1,i2,i3⟩:=i hk;exact⟨i1,by show v.aB.l.map cn=[]; rw [i2]; rfl,i3⟩
  ·show aW (Rl n) (v.aB.l.map cn) (v.aB.l.map cn);refine aW.jV rfl fun q x y hx m=>?_;rw [hx] at m;simp only [Option.some.injEq] at m;subst m;rw [List.getElem?_map] at hx;cases j:v.aB.l[q]? with
   | none=>rw [j] at hx; cases hx
   | some z =>
    rw [j] at hx;simp only [Option.map_some,Option.some.injEq] at hx;subst hx;obtain⟨s,p,r⟩:=k.get j;rw [j] at p;simp only [Option.some.injEq] at p;subst p;exact Rl.cp n z r
theorem Ci {N:Nat}{x:Z7}(h:oA N x):oA N (b8 x):=⟨h.1,fun hh=>Rl.cp N _ (h.2 hh)⟩
theorem LD {N:Nat}{t:ah}(h:l_ N t):l_ N (bq t):=by
 refine⟨?_,fun y b=>?_⟩
 ·show (t.aF.l.map b8).length<=_;rw [List.length_map]; exact h.1
 ·obtain⟨x,f,rfl⟩:=List.mem_map.1 (show y∈t.aF.l.map b8 from b);exact Ci (h.2 x f)
structure iD (e:ak):Prop where
 wf:e.wf
 sz:e.sz<=1048576
 ins:∀t∈e.aj.l,l_ nB t
 args:∀t∈e.aj.l,∀f∈t.aq.l,∀x∈f.ay.l,oA nB x
theorem iD.bl {e:ak}(h:iD e) (s:Bs):l_ nB (bl e.aj.l s).1:=by
 rcases zj e.aj.l s with e|hm
 ·rw [e]; exact⟨by show 0<=_; omega,fun x hx=>by cases hx⟩
 ·exact h.ins _ hm
theorem iD.vk {e:ak}(h:iD e){x:Z7}(hx:oA nB x) (b:x.sz<=1048576):Good e x:=by
 refine⟨b,fun hh=>?_⟩;obtain⟨v,w,er,f,g,_⟩:=TC (N:=nB) TX h.bl (va:=zv) (xf.mono (by unfold nB; omega)) hx.1 (hx.2 hh);exact⟨v,w,er,f,g⟩
theorem iD.Cj {e:ak}(h:iD e){t:ah}(ht:t∈e.aj.l):t.sz<=1048576/\(∀f∈t.aq.l,f.sz<=1048576/\∀x∈f.ay.l,x.sz<=1048576)/\∀x∈t.aF.l,x.sz<=1048576:=by
 have h0:=h.sz;have h1:=ak.Er ht;have g:=t.bt;refine⟨by omega,fun f b=>?_,fun x hx=>by have:=Sl.de (f:=Z7.sz) hx; omega⟩;have j:=Sl.de (f:=Z6.sz) b;have k:=f.bt;exact⟨by omega,fun x hx=>by have:=Sl.de (f:=Z7.sz) hx; omega⟩
theorem iD.LF {e:ak}(h:iD e):∀t∈e.aj.l,B_ e t:=fun t ht=>by
 obtain⟨s1,g,j⟩:=h.Cj ht;exact⟨s1,fun f b=>⟨(g f b).1,fun x hx=>h.vk (h.args t ht f b x hx) ((g f b).2 x hx)⟩,fun x hx=>h.vk ((h.ins t ht).2 x hx) (j x hx)⟩
theorem iD.cp {e:ak}(h:iD e):iD (dy e):=by
 refine⟨Ua h.wf,Nat.le_trans (T_ e) h.sz,fun u hu=>?_,fun u hu f b x hx=>?_⟩
 ·obtain⟨t,ht,rfl⟩:=List.mem_map.1 (show u∈(oH e).map bq from hu);exact LD (h.ins t (Fj.1 ht).1)
 ·obtain⟨t,ht,rfl⟩:=List.mem_map.1 (show u∈(oH e).map bq from hu);obtain⟨g,hg,rfl⟩:=List.mem_map.1 (show f∈t.aq.l.map ct from b);obtain⟨y,j,rfl⟩:=List.mem_map.1 (show x∈g.ay.l.map b8 from hx);exact Ci (h.args t (Fj.1 ht).1 g hg y j)
theorem UA {e:ak}(f:vt e){x:Z7}(hx:Good e x) (g:Good (dy e) (b8 x)) (p:Bs):js (dy e) (b8 x) p=js e x p:=by
 unfold js;rw [show (b8 x).ck=x.ck from rfl];cases hh:x.ck with
 | false=>rfl
 | true =>
  obtain⟨v,w,a,j,k⟩:=hx.2 hh;obtain⟨r,w',b,l,m⟩:=g.2 hh;have s:=hx.1;have u:=x.bt;have y:=x.av.s_;have q:b=a:=Uy f (t:=x.av) trivial (by omega) k m;subst q;rw [j,l]
theorem UB {e:ak}(j:vt e) (h:iD e){t:ah}(ht:t∈e.aj.l):fD (dy e) (bq t)=fD e t:=by
 obtain⟨s1,k,m⟩:=h.Cj ht;have one:∀x,oA nB x->x.sz<=1048576->∀p,js (dy e) (b8 x) p=js e x p:=fun x h1 b p =>
  UA j (h.vk h1 b) (h.cp.vk (Ci h1) (by rw [Fh]; exact b)) p
 unfold fD fF fI;rw [show (bq t).aq.l=t.aq.l.map ct from rfl,show (bq t).aF.l=t.aF.l.map b8 from rfl,List.flatMap_map,List.flatMap_map]
 congr 1
 ·refine xq fun f g=>?_;rw [show (ct f).ay.l=f.ay.l.map b8 from rfl,List.flatMap_map];exact xq fun x hx=>one x (h.args t ht f g x hx) ((k f g).2 x hx) _
 ·exact xq fun x hx=>one x ((h.ins t ht).2 x hx) (m x hx) _
theorem LG {e:ak}(b:vt e) (h:iD e):(dy e).aj.l.flatMap (fD (dy e))=e.aj.l.flatMap (fD e):=by
 rw [show (dy e).aj.l=(oH e).map bq from rfl,p9,List.flatMap_map];exact xq fun t ht=>UB b h ht
theorem iD.gd {e:ak}(h:iD e) (hc:gZ e true=[]):Gd e:=by
 have h0:=h.sz;have h1:=e.bt;have g:=Sl.iY (f:=ah.sz) e.aj ah.pos;exact⟨by omega,Lh hc,fun t ht f b=>((Fb h.sz h.wf) t ht).2.1 f b |>.2.2⟩
theorem zM {P R:ak}(j:iD P) (g:iD R) (h:dy P=dy R):∃a b,zN P=some a/\pJ R=some b/\a.l=b.l:=by
 have hc:gZ P true=gZ R true:=by rw [<- Lg P,<- Lg R,h]
 have k:=j.sz;have hr:=g.sz;have h0:=P.bt;have hl:=Sl.iY (f:=ah.sz) P.aj ah.pos;have B:=R.bt;have rl:=Sl.iY (f:=ah.sz) R.aj ah.pos;obtain⟨C,u,p,n4⟩:=Jt k true;have v:(gZ R true).length<=9000000:=by rw [<- hc,<- p]; exact n4
 obtain⟨E,w⟩:=JJ (d:=R) (fun t ht=>(g.Cj ht).1) (by omega) true v;unfold zN pJ;rw [u,w,oB,oB,p,hc];by_cases hn:gZ R true=[]
 ·have q:=g.gd hn;have r:=j.gd (by rw [hc]; exact hn);have m:k8 P=k8 R:=by rw [<- Lr r,<- Lr q,h]
  have F:=SX k;obtain⟨G,f1⟩:=SG (d:=P) (by omega) (Fb k j.wf) (by unfold pW; omega);obtain⟨H,f2⟩:=SO (d:=R) (by omega) (Fb hr g.wf) (by rw [<- m]; unfold pW; omega);have y:P.aj.l.flatMap (fD P)=R.aj.l.flatMap (fD R):=by rw [<- LG (LC r k) j,<- LG (LC q hr) g,h]
  have I:Sl.sz ah.sz P.aj=1+(P.aj.l.map ah.sz).sum:=rfl;have J:Sl.sz ah.sz R.aj=1+(R.aj.l.map ah.sz).sum:=rfl;obtain⟨a,t1,t2⟩:=TV P P.aj.l (Sl.nil:Sl Z5) j.LF (by simp only [Sl.nil,List.length_nil]; omega);obtain⟨b,t3,t4⟩:=TW R R.aj.l (Sl.nil:Sl Z5) g.LF (by simp only [Sl.nil,List.length_nil]; omega);have z:zO P=some a:=by unfold zO; rw [t1]; rfl
  have hB:zP R=some b:=by unfold zP; rw [t3]; rfl
  have s:a.l=b.l:=by rw [t2,t4,y]
  have K:a.l.length<=1048576:=by
   rw [t2];have:=qX (TZ P) P.aj.l;show (List.length ([]++P.aj.l.flatMap (fD P)))<=_;rw [List.nil_append]; omega
  rw [hn,show decide ((0:Int)<((([]:List Z5).length:Nat):Int))=false from rfl,cond_false,cond_false,f1,f2,z,hB];simp only [oB];rw [Fc (by show (k8 P).length+a.l.length<=_; omega),Fc (by simp only [List.length_nil,<- m]; omega)];simp only [oB];rw [Fc (by simp only [List.nil_append,<- m]; rw [<- s]; omega)];simp only [oB];exact⟨_,_,rfl,rfl,by simp only [List.nil_append,m,s]⟩
 ·have L:0<(gZ R true).length:=List.length_pos_iff.2 hn;rw [show decide ((0:Int)<(((gZ R true).length:Nat):Int))=true from dT (by omega),cond_true,cond_true];exact⟨_,_,rfl,rfl,by rw [p,hc]⟩
theorem LH {α:Type}{z:Nat}{s r:Sl α}(hz:z<=200) (h:s.l.length+r.l.length<=10000000):bh z s r=some ⟨s.nl&&r.l.isEmpty,s.l++r.l⟩:=by
 unfold bh; rw [if_pos];have h1:(s.l.length+r.l.length)*z<=10000000*200:=Nat.mul_le_mul h hz;unfold cA; omega
theorem Ft (n a:Bs):∀(l:List aA) (s:Sl Z9),s.l.length+l.length<=3000000->∃r,lB n a l s=some r/\r.l.length<=s.l.length+l.length
 | [],s,_=>⟨s,rfl,by simp⟩
 | x::r,s,h=>by
  simp only [List.length_cons] at h;rw [lB];simp only [on];cases (nq x a).2&&(x.aa==n)
  ·obtain⟨z,b,f⟩:=Ft n a r s (by omega);exact⟨z,b,by simp; omega⟩
  ·rw [cond_true,LH (by omega) (by simp; omega),oB,oB];obtain⟨z,b,f⟩:=Ft n a r ⟨s.nl&&[(nq x a).1].isEmpty,s.l++[(nq x a).1]⟩ (by simp; omega);exact⟨z,b,by simp at f ⊢; omega⟩
theorem LI (n:Bs):∀(l:List Bs) (i:Nat),kr n l i=Sum.inl ()/\l.contains n=false\/(∃j:Nat,kr n l i=Sum.inr (j:Int))/\l.contains n=true
 | [],_=>.inl ⟨rfl,rfl⟩
 | x::r,i=>by
  rw [kr,List.contains_cons];simp only [on,show (x==n)=(n==x) from BEq.comm];cases n==x
  ·simpa using LI n r (i+1)
  ·exact .inr ⟨⟨i,rfl⟩,rfl⟩
theorem UC (s:Sl Bs) (n:Bs):lX s n=s.l.contains n:=by
 unfold lX oh;rcases LI n s.l 0 with ⟨b,f⟩|⟨⟨j,b⟩,f⟩<;>rw [b,f]
 ·rfl
 ·simp [on]
theorem Ck:∀(l:List Z9) (s:Sl Bs),s.l.length+l.length<=3000000->∃r,mc l s=some r/\r.l.length<=s.l.length+l.length
 | [],s,_=>⟨s,rfl,by simp⟩
 | x::r,s,h=>by
  simp only [List.length_cons] at h;have wk:∀{o:Option (Sl Bs)}{n m:Nat},n<=m->(∃r,o=some r/\r.l.length<=n)->∃r,o=some r/\r.l.length<=m:=fun h ⟨r,a,c⟩=>⟨r,a,by omega⟩;rw [mc];simp only [on];cases decide (x.ai=(3:Int))
  ·simp only [cond_false,Bool.false_and,oB];exact wk (by simp) (Ck r s (by omega))
  ·simp only [cond_true,Bool.true_and];cases lX s x.bp
   ·simp only [Bool.not_false,cond_true];rw [LH (by omega) (by simp; omega)];simp only [oB];exact wk (by simp; omega) (Ck r ⟨s.nl&&[x.bp].isEmpty,s.l++[x.bp]⟩ (by simp; omega))
   ·simp only [Bool.not_true,cond_false,oB];exact wk (by simp) (Ck r s (by omega))
def tg (a:Sl aA):List Bs:=match jt a with|some r=>r.l|none=>[]
theorem Cl {a:Sl aA}(h:a.l.length<=1048576):∃r,jt a=some r/\r.l=tg a/\r.l.length<=1048576:=by
 have key:∃r,jt a=some r/\r.l.length<=1048576:=by
  unfold jt zQ;obtain⟨x,b,f⟩:=Ft [116,97,103] [110,97,109,101] a.l (Sl.nil:Sl Z9) (by simp [Sl.nil]; omega);rw [b];simp only [on,oB];obtain⟨r,f1,f3⟩:=Ck x.l (Sl.nil:Sl Bs) (by simp [Sl.nil] at f ⊢; omega);rw [f1];exact⟨r,rfl,by simp [Sl.nil] at f f3; omega⟩
 obtain⟨r,b,g⟩:=key;exact⟨r,b,by unfold tg; rw [b],g⟩
def sh (a b:List Bs):Bool:=a.any fun s=>b.contains s
theorem LJ (f:Bs->Bool):∀(l:List Bs) (n:Nat),(∃k:Nat,tW f l n=Sum.inr (k:Int))/\l.any f=true\/tW f l n=Sum.inl ()/\l.any f=false
 | [],_=>.inr ⟨rfl,rfl⟩
 | x::l,n=>by
  rw [tW,List.any_cons];simp only [on];cases f x
  ·simpa using LJ f l (n+1)
  ·exact .inl ⟨⟨n,rfl⟩,rfl⟩
theorem UD (s:Sl Bs) (f:Bs->Bool):zR s f=s.l.any f:=by
 unfold zR Cm;rcases LJ f s.l 0 with ⟨⟨k,b⟩,g⟩|⟨b,g⟩<;>rw [b,g]
 ·simp [on]
 ·rfl
theorem LK (a b:Sl Bs):tX a b=sh a.l b.l:=by
 unfold tX sh;rw [UD];unfold zS;simp only [on,UC]
def al (i e:Sl Bs) (l:List Bs):Bool:=!sh l e.l&&(decide (((i.l.length:Nat):Int)=(0:Int))||sh l i.l)
theorem LL (i e s:Sl Bs):nr (Z2.mk i e) s=al i e s.l:=by
 unfold nr al;simp only [on,LK];cases sh s.l e.l<;>cases decide (((i.l.length:Nat):Int)=(0:Int))<;>rfl
def okF (i e:Sl Bs) (t:ah) (a:Sl aA):Bool:=al i e (tg t.bf++tg a)
noncomputable def kM (i e:Sl Bs) (t:ah):List Z8:=bif decide (t.ai=(4:Int)) then t.ax.l.filter fun m=>okF i e t m.bf else t.ax.l
noncomputable def xu (i e:Sl Bs) (t:ah):List Z6:=t.aq.l.filter fun f=>okF i e t f.bf
noncomputable def pT (i e:Sl Bs) (t:ah):ah:=ah.mk t.ai t.aa t.aM (bF (t.bf.l.map dx)) (bF ((xu i e t).map ct)) (bF ((kM i e t).map d_)) (bF (t.aF.l.map b8))
theorem LM (a b:Sl Bs) (k:a.l.length<=2000000) (m:b.l.length<=2000000):∃nl,xw ⟨false,[a,b]⟩=some ⟨nl,a.l++b.l⟩/\(nl=true->a.l++b.l=[]):=by
 have hg:zT ((a.l.length:Int)+(b.l.length:Int))=some ⟨decide ((a.l.length:Int)+(b.l.length:Int)=0),[]⟩:=by
  unfold zT; rw [if_pos ⟨by omega,by unfold cA; omega,by unfold cA; omega⟩]
 refine⟨(decide ((a.l.length:Int)+(b.l.length:Int)=0)&&a.l.isEmpty)&&b.l.isEmpty, ?_, ?_⟩
 ·unfold xw Cn;simp only [List.length_cons,List.length_nil,Nat.zero_add,Nat.reduceAdd,vu];have h1:cN 0 (a.l.length:Int)=some (a.l.length:Int):=by rw [iL (by omega)]; simp
  have f:cN (a.l.length:Int) (b.l.length:Int)=some ((a.l.length:Int)+(b.l.length:Int)):=iL (by omega);have g:¬((a.l.length:Int)<0):=by omega
  have j:¬((a.l.length:Int)+(b.l.length:Int)<0):=by omega
  have d1:decide ((0:Int)<2)=true:=by decide
  simp only [List.getElem?_cons_zero,List.getElem?_cons_succ,oB,h1,f,hg,dF g,dF j,cond_true,cond_false,Co,Cp,vu,zU,Cq,
   Int.natCast_zero,Nat.zero_add,Nat.reduceAdd,List.length_cons,List.length_nil]
  have p:∀(x y:Nat),x<y->decide (((x:Nat):Int)<((y:Nat):Int))=true:=fun x y h=>dT (by omega);have dn:∀(x y:Nat),¬x<y->decide (((x:Nat):Int)<((y:Nat):Int))=false:=fun x y h=>dF (by omega);rw [jk (by decide) (by simp; omega)];simp;rw [jk (by decide) (by simp; omega)]
  first|done|simp
 ·intro h;simp only [Bool.and_eq_true,List.isEmpty_iff] at h;rw [h.1.2,h.2]; rfl
theorem UE {x:Z6}(h1:x.sz<=1048576) (hw:x.wf):x.bf.l.length<=1048576/\x.av.aH.l.length<=1048576:=by
 have b:=x.bt;have g:=Sl.eV (f:=aA.sz) x.bf aA.pos;have j:=x.av.s_;exact⟨by omega,by omega⟩
theorem Fu {i e:Sl Bs}{t:ah}{x3:Sl Bs}(g:x3.l=tg t.bf) (m:x3.l.length<=1048576) (k:Int) (n:Bs) (b:Sl Bs) (D:Sl aA) (M:Sl Z8) (N:Sl Z7):∀(l s:List Z6),(∀x∈l,x.sz<=1048576/\x.wf)->s.length+l.length<=5000000 ->
  jF (Z2.mk i e) x3 l (ah.mk k n b D (bF s) M N)=some (ah.mk k n b D (bF (s++(l.filter fun f=>okF i e t f.bf).map ct)) M N)
 | [],s,_,_=>by rw [jF,List.filter_nil,List.map_nil,List.append_nil]
 | x::l,s,hx,hl=>by
  rw [List.length_cons] at hl;rw [jF,List.filter_cons];simp only [on];obtain⟨h1,hw⟩:=hx x (.head _);have B:=x.bt;obtain⟨p,q⟩:=UE h1 hw;obtain⟨r,u,v,C⟩:=Cl (a:=x.bf) p;obtain⟨nl,w,_⟩:=LM x3 r (by omega) (by omega);have z:nr (Z2.mk i e) ⟨nl,x3.l++r.l⟩=okF i e t x.bf:=by rw [LL,okF,g,v]
  rw [u,oB,w,oB,z];cases okF i e t x.bf
  ·rw [cond_false,oB,Fu g m k n b D M N l s (fun y j=>hx y (.tail _ j)) (by omega)]; rfl
  ·rw [cond_true,KO _ (aL.IG (Z6.ww hw)).1 q,oB,Ce (by omega) (Z6.jo hw),oB,KX (by omega) (Z6.kO hw),oB,
    xo (by omega) (by omega),oB,oB,Fu g m k n b D M N l (s++[_]) (fun y j=>hx y (.tail _ j)) (by simp; omega),List.append_assoc]; rfl
theorem Fv {i e:Sl Bs}{t:ah}{x3:Sl Bs}(j:x3.l=tg t.bf) (q:x3.l.length<=1048576) (k:Int) (n:Bs) (g:Sl Bs) (D:Sl aA) (F:Sl Z6) (N:Sl Z7):∀(l s:List Z8),(∀x∈l,x.sz<=1048576/\x.wf)->s.length+l.length<=5000000 ->
  gG (Z2.mk i e) t x3 l (ah.mk k n g D F (bF s) N)=some (ah.mk k n g D F (bF (s++(l.filter fun m=>!decide (t.ai=(4:Int))||okF i e t m.bf).map d_)) N)
 | [],s,_,_=>by rw [gG,List.filter_nil,List.map_nil,List.append_nil]
 | x::l,s,hx,hl=>by
  rw [List.length_cons] at hl;rw [gG,List.filter_cons];simp only [on];obtain⟨h1,hw⟩:=hx x (.head _);have G:=x.bt;have H:=Sl.eV (f:=aA.sz) x.bf aA.pos;obtain⟨r,u,v,I⟩:=Cl (a:=x.bf) (by omega);obtain⟨nl,w,_⟩:=LM x3 r (by omega) (by omega);have z:nr (Z2.mk i e) ⟨nl,x3.l++r.l⟩=okF i e t x.bf:=by rw [LL,okF,j,v]
  have fin:∀b:Bool,(Option.bind (bif b then((rC x.bf).bind fun B=>(bh 40 (bF s) (⟨false,[(Z8.mk x.aa B)]⟩:Sl Z8)).bind fun C=>some (ah.mk k n g D F C N)) else(some (ah.mk k n g D F (bF s) N))) fun E=>gG (Z2.mk i e) t x3 l E)=some (ah.mk k n g D F (bF (s++(if b=true then x::l.filter (fun m=>!decide (t.ai=(4:Int))||okF i e t m.bf) else l.filter (fun m=>!decide (t.ai=(4:Int))||okF i e t m.bf)).map d_)) N):=by
   intro b;cases b
   ·rw [cond_false,oB,Fv j q k n g D F N l s (fun y p=>hx y (.tail _ p)) (by omega)]; rfl
   ·rw [cond_true,Ce (by omega) (Z8.jo hw),oB,xo (by omega) (by omega),oB,oB,Fv j q k n g D F N l (s++[_]) (fun y p=>hx y (.tail _ p)) (by simp; omega),List.append_assoc]; rfl
  cases hk:decide (t.ai=(4:Int))
  ·rw [hk] at fin;simp only [Bool.not_false,Bool.not_true,aZ,cond_false,Bool.true_or];exact fin true
  ·rw [hk] at fin;simp only [Bool.not_false,Bool.not_true,aZ,cond_true,Bool.false_or,if_true,u,oB,w,z]
   simpa only [Bool.not_true,Bool.false_or] using fin (okF i e t x.bf)
theorem UF {i e:Sl Bs}{t:ah}(k:t.sz<=1048576) (hw:t.wf):p_ (Z2.mk i e) t=some (pT i e t):=by
 have m:=t.bt;have p:=Sl.eV (f:=aA.sz) t.bf aA.pos;have q:=Sl.eV (f:=Bs.sz) t.aM (fun x=>Bs.mA x);have s:=Sl.eV (f:=Z6.sz) t.aq Z6.pos;have u:=Sl.eV (f:=Z8.sz) t.ax Z8.pos;obtain⟨r,j,b,g⟩:=Cl (a:=t.bf) (by omega);unfold p_ zV;rw [j,oB,KN _ (ah.yW hw).1 (by omega),oB,Ce (by omega) (ah.jo hw),oB,KX (by omega) (ah.uR hw),oB,
  show (Sl.nil:Sl Z6)=bF [] from rfl,show (Sl.nil:Sl Z8)=bF [] from rfl,Fu (t:=t) b g _ _ _ _ _ _ t.aq.l [] (fun x hx=>⟨by have:=Sl.de (f:=Z6.sz) hx; omega,(ah.qB hw).2.2 x hx⟩) (by simp; omega),oB]
 simp only [on];rw [Fv b g _ _ _ _ _ _ t.ax.l [] (fun x hx=>⟨by have:=Sl.de (f:=Z8.sz) hx; omega,(ah.wx hw).2.2 x hx⟩) (by simp; omega),oB];unfold pT xu kM;cases decide (t.ai=(4:Int))
 ·simp only [Bool.not_false,Bool.true_or,cond_false,List.nil_append];rw [List.filter_eq_self.2 (fun _ _=>rfl)]
 ·simp only [Bool.not_true,Bool.false_or,cond_true,List.nil_append]
def oK (e:Sl Bs) (t:ah):Bool:=!sh (tg t.bf) e.l
theorem LN {i e:Sl Bs}:∀(l:List ah),(∀x∈l,x.sz<=1048576/\x.wf)->rD (Z2.mk i e) e l=some ((l.filter (oK e)).map (pT i e))
 | [],_=>rfl
 | x::l,hx=>by
  rw [rD,List.filter_cons];obtain⟨h1,hw⟩:=hx x (.head _);have m:=x.bt;have p:=Sl.eV (f:=aA.sz) x.bf aA.pos;obtain⟨r,b,g,q⟩:=Cl (a:=x.bf) (by omega);have j:tX r e=!oK e x:=by unfold oK; rw [LK,g,Bool.not_not]
  rw [b,oB,j,Bool.not_not,LN l fun y k=>hx y (.tail _ k)];cases oK e x
  ·rfl
  ·rw [cond_true,UF h1 hw]; rfl
def Cr (x:Z7):Bool:=jB x.av&&!x.ck
theorem LO (x:Z7):qa x=!Cr x:=by
 unfold qa Cr;simp only [on];cases jB x.av<;>cases x.ck<;>rfl
def bad (g:Bs->Bool) (l:List Z7):Bool:=l.any fun x=>g x.av.aa&&Cr x
def iP (g:Bs->Bool) (l:List Z7):List Z7:=l.filter fun x=>!g x.av.aa
def oL (g:Bs->Bool) (f:Z6):Bool:=!bad g f.ay.l&&!g f.av.aa
def rF (g:Bs->Bool) (f:Z6):Z6:=Z6.mk f.aa (bF (iP g f.ay.l)) f.av f.bf
def iQ (g:Bs->Bool) (l:List Z6):List Z6:=(l.filter (oL g)).map (rF g)
def rM (g:Bs->Bool) (t:ah):List Z8:=bif decide (t.ai=(3:Int)) then t.ax.l.filter fun x=>!g x.aa else t.ax.l
def me (g:Bs->Bool) (t:ah):Bool:=!bad g t.aF.l&&decide (0<(iQ g t.aq.l).length+(rM g t).length+(iP g t.aF.l).length)
def rT (g:Bs->Bool) (t:ah):ah:=ah.mk t.ai t.aa (bF (t.aM.l.filter fun x=>!g x)) t.bf (bF (iQ g t.aq.l)) (bif decide (t.ai=(3:Int)) then bF (rM g t) else t.ax) (bF (iP g t.aF.l))
structure YJ (t:ah):Prop where
 f:t.aq.l.length<=1048576
 a:∀x∈t.aq.l,x.ay.l.length<=1048576
 m:t.ax.l.length<=1048576
 i:t.aF.l.length<=1048576
 p:t.aM.l.length<=1048576
def eN (l:List Z6):Nat:=(l.map fun f=>1+f.ay.l.length).sum
def fV (t:ah):Nat:=eN t.aq.l+t.ax.l.length+t.aF.l.length+t.aM.l.length
def dN (l:List ah):Nat:=(l.map fun t=>1+fV t).sum
theorem Fw:∀(n:Nat) (v:Z9),v.sz<=n->cn (cn v)=cn v
 | 0,v,h=>absurd (Z9.pos v) (by omega)
 | n+1,v,h=>by
  rw [oF v,Fe,List.map_map];have e:v.aB.l.map (cn ∘ cn)=v.aB.l.map cn:=List.map_congr_left fun x hx=>Fw n x (by have:=Z9.kQ hx; omega);rw [e,List.isEmpty_map]
theorem UG (x:bT):iO (iO x)=iO x:=by unfold iO; dsimp only; rw [Fw _ _ (Nat.le_refl _)]
theorem iE {α:Type}{c:α->α}(h:∀x,c (c x)=c x) (l:List α):(l.map c).map c=l.map c:=by rw [List.map_map]; exact List.map_congr_left fun x _=>h x
theorem vv (x:aA):dx (dx x)=dx x:=by unfold dx; dsimp only [bF]; rw [iE UG]
theorem xx (x:Z7):b8 (b8 x)=b8 x:=by unfold b8; dsimp only [bF]; rw [iE vv,Fw _ _ (Nat.le_refl _)]
theorem LP (x:Z6):ct (ct x)=ct x:=by unfold ct; dsimp only [bF]; rw [iE vv,iE xx]
theorem Fy (x:Z8):d_ (d_ x)=d_ x:=by unfold d_; dsimp only [bF]; rw [iE vv]
theorem Fz (x:ah):bq (bq x)=bq x:=by unfold bq; dsimp only [bF]; rw [iE vv,iE LP,iE Fy,iE xx]
theorem UH {l m:List ah}(h:l.map bq=m.map bq):jR l=jR m:=by
 funext n
 have hn:∀k:List ah,(k.any fun t=>t.aa==n)=((k.map bq).any fun t=>t.aa==n):=fun k=>by rw [List.any_map]; rfl
 unfold jR; rw [hn l,hn m,h]
theorem LQ (g:Bs->Bool) (l:List Z7):bad g (l.map b8)=bad g l:=by unfold bad; rw [List.any_map]; rfl
theorem FB (g:Bs->Bool) (l:List Z7):iP g (l.map b8)=(iP g l).map b8:=by unfold iP; rw [List.filter_map]; rfl
theorem UI (g:Bs->Bool) (f:Z6):oL g (ct f)=oL g f:=by
 unfold oL; rw [show (ct f).ay.l=f.ay.l.map b8 from rfl,LQ]; rfl
theorem LR (g:Bs->Bool) (l:List Z6):(iQ g (l.map ct)).map ct=(iQ g l).map ct:=by
 unfold iQ;rw [List.filter_map,show oL g ∘ ct=oL g from funext fun f=>UI g f,List.map_map,List.map_map,List.map_map];refine List.map_congr_left fun f _=>?_;show ct (rF g (ct f))=ct (rF g f);unfold rF ct;dsimp only [bF];rw [FB,iE xx,iE vv]
theorem LS (g:Bs->Bool) (t:ah):rM g (bq t)=(rM g t).map d_:=by
 unfold rM;rw [show (bq t).ai=t.ai from rfl,show (bq t).ax.l=t.ax.l.map d_ from rfl];cases decide (t.ai=(3:Int))
 ·rfl
 ·rw [cond_true,cond_true,List.filter_map]; rfl
theorem Cs (g:Bs->Bool) (t:ah):(bif decide (t.ai=(3:Int)) then bF (rM g t) else t.ax).l=rM g t:=by
 unfold rM; cases decide (t.ai=(3:Int))<;>rfl
theorem UJ (g:Bs->Bool) (t:ah):me g (bq t)=me g t:=by
 have h:=congrArg List.length (LR g t.aq.l);rw [List.length_map,List.length_map] at h;unfold me;rw [LS,show (bq t).aF.l=t.aF.l.map b8 from rfl,show (bq t).aq.l=t.aq.l.map ct from rfl,LQ,FB,List.length_map,List.length_map,h]
noncomputable def rN (g:Bs->Bool) (t:ah):ah:=bq (rT g t)
theorem UK (g:Bs->Bool) (t:ah):rN g (bq t)=rN g t:=by
 unfold rN;have h:∀t:ah,bq (rT g t)=ah.mk t.ai t.aa (bF (t.aM.l.filter fun x=>!g x)) (bF (t.bf.l.map dx)) (bF ((iQ g t.aq.l).map ct)) (bF ((rM g t).map d_)) (bF ((iP g t.aF.l).map b8)):=fun t=>by
  unfold bq rT; dsimp only; rw [Cs]; rfl
 rw [h,h,LS,show (bq t).aF.l=t.aF.l.map b8 from rfl,show (bq t).aq.l=t.aq.l.map ct from rfl,show (bq t).bf.l=t.bf.l.map dx from rfl,FB,iE xx,iE Fy,iE vv,LR];rfl
noncomputable def rd (n:List ah):List ah:=(n.filter (me (jR n))).map (rN (jR n))
theorem LU {g:Bs->Bool}{s:Sl Z7}:(gH g s).l.length<=s.l.length:=List.length_filter_le _ _
theorem LV (g:Bs->Bool) (s:Sl Z7):tY g s=bad g s.l:=by
 unfold tY bad
 congr 1; funext x; rw [LO,Bool.not_not]
theorem FC {g:Bs->Bool}{s:Sl Z7}(h:bad g s.l=false):(gH g s).l=iP g s.l:=by
 unfold gH iP;dsimp only;refine List.filter_congr fun x hx=>?_;have b:=List.any_eq_false.1 h x hx;rw [LO]
 revert b
 cases g x.av.aa<;>cases Cr x<;>simp
def pF (g:Bs->Bool) (f:Z6):Z6:=Z6.mk f.aa (gH g f.ay) f.av f.bf
theorem xy (g:Bs->Bool):∀(l:List Z6) (ch:Bool),(gJ g l ch).1=(l.filter (oL g)).map (pF g)
 | [],_=>rfl
 | f::l,ch=>by
  rw [gJ,List.filter_cons,LV];unfold oL;rw [<- Bool.not_or];cases h:bad g f.ay.l||g f.av.aa
  ·simp only [cond_false,Bool.not_false,if_true,List.map_cons];rw [xy g l]; rfl
  ·simp only [cond_true,Bool.not_true];rw [xy g l]; rfl
theorem LW (g:Bs->Bool) (l:List Z6) (ch:Bool):(gJ g l ch).1.map ct=(iQ g l).map ct:=by
 rw [xy];unfold iQ;rw [List.map_map,List.map_map];refine List.map_congr_left fun f b=>?_;have h:=(List.mem_filter.1 b).2;unfold oL at h;have j:bad g f.ay.l=false:=by cases e:bad g f.ay.l with|false=>rfl|true=>rw [e] at h; cases h
 show ct (pF g f)=ct (rF g f);unfold pF rF ct;dsimp only [bF];rw [FC j]
theorem FD (g:Bs->Bool):∀(l:List Z6) (ch:Bool),(gJ g l ch).2=(ch||decide (eN (gJ g l ch).1<eN l))/\eN (gJ g l ch).1<=eN l
 | [],ch=>by simp [gJ,eN]
 | f::l,ch=>by
  rw [gJ];have hc:eN (f::l)=1+f.ay.l.length+eN l:=by unfold eN; rw [List.map_cons,List.sum_cons]
  cases h:tY g f.ay||g f.av.aa
  ·rw [cond_false];obtain⟨i1,i2⟩:=FD g l (ch||qb g f.ay);have hle:=LU (g:=g) (s:=f.ay);have b:∀r,eN (Z6.mk f.aa (gH g f.ay) f.av f.bf::r)=1+(gH g f.ay).l.length+eN r:=fun r=>by unfold eN; rw [List.map_cons,List.sum_cons]
   dsimp only;rw [b,hc,i1];refine⟨?_,by omega⟩;generalize (gJ g l (ch||qb g f.ay)).1=r at i2 ⊢;unfold qb;rw [Bool.or_assoc]
   congr 1
   by_cases q:(gH g f.ay).l.length<f.ay.l.length
   ·rw [dT (show (((gH g f.ay).l.length:Nat):Int)<((f.ay.l.length:Nat):Int) by omega),dT (show 1+(gH g f.ay).l.length+eN r<1+f.ay.l.length+eN l by omega)]; rfl
   ·rw [dF (show ¬(((gH g f.ay).l.length:Nat):Int)<((f.ay.l.length:Nat):Int) by omega),Bool.false_or];exact decide_eq_decide.2 (by omega)
  ·rw [cond_true];obtain⟨i1,i2⟩:=FD g l true;rw [hc,i1,dT (show eN (gJ g l true).1<1+f.ay.l.length+eN l by omega)];exact⟨by simp,by omega⟩
theorem UL (g:Bs->Bool) (l:List Z6) (a b:Bool):(gJ g l a).1=(gJ g l b).1:=by rw [xy,xy]
theorem Ct (g:Bs->Bool) (t:ah):(tZ g t).l=rM g t:=by
 unfold tZ rM; cases decide (t.ai=(3:Int))<;>rfl
theorem LX (g:Bs->Bool) (t:ah):(rM g t).length<=t.ax.l.length:=by
 unfold rM; cases decide (t.ai=(3:Int))
 ·exact Nat.le_refl _
 ·exact List.length_filter_le _ _
theorem UM (g:Bs->Bool) (t:ah) (ch:Bool):t_ g t ch=(ch||decide (fV (jG g t ch)<fV t))/\fV (jG g t ch)<=fV t:=by
 obtain⟨i1,i2⟩:=FD g t.aq.l ch;have hi:=LU (g:=g) (s:=t.aF);have hm:=LX g t;have k:(xz g t).l.length<=t.aM.l.length:=List.length_filter_le _ _;have f:fV t=eN t.aq.l+t.ax.l.length+t.aF.l.length+t.aM.l.length:=rfl;have j:fV (jG g t ch)=eN (gJ g t.aq.l ch).1+(rM g t).length+(gH g t.aF).l.length+(xz g t).l.length:=by rw [<- Ct]; rfl
 unfold t_ qb;rw [i1,f,j,Ct];refine⟨?_,by omega⟩;rw [Bool.or_assoc,Bool.or_assoc]
 congr 1
 generalize eN (gJ g t.aq.l ch).1=a at *;by_cases b:a<eN t.aq.l
 ·rw [dT b,Bool.true_or,dT (by omega)]
 ·rw [dF b,Bool.false_or];by_cases m:(gH g t.aF).l.length<t.aF.l.length
  ·rw [dT (show (((gH g t.aF).l.length:Nat):Int)<((t.aF.l.length:Nat):Int) by omega),Bool.true_or,dT (by omega)]
  ·rw [dF (show ¬(((gH g t.aF).l.length:Nat):Int)<((t.aF.l.length:Nat):Int) by omega),Bool.false_or];exact decide_eq_decide.2 (by omega)
theorem LY (g:Bs->Bool) (t:ah) (a b:Bool):jG g t a=jG g t b/\oM g t a=oM g t b:=by
 unfold jG oM ua;rw [UL g t.aq.l a b];exact⟨rfl,rfl⟩
theorem zW (g:Bs->Bool):∀(l:List ah) (ch:Bool),(kB g l ch).1=(l.filter fun t=>oM g t false).map fun t=>jG g t false
 | [],_=>rfl
 | t::l,ch=>by
  rw [kB,List.filter_cons,(LY g t ch false).1,(LY g t ch false).2];cases oM g t false
  ·rw [cond_false,zW g l true]; rfl
  ·rw [cond_true,if_pos rfl,List.map_cons,zW g l]
theorem xA (t:ah) (l:List ah):dN (t::l)=1+fV t+dN l:=by unfold dN; rw [List.map_cons,List.sum_cons]
theorem FE (g:Bs->Bool):∀(l:List ah) (ch:Bool),(kB g l ch).2=(ch||decide (dN (kB g l ch).1<dN l))/\dN (kB g l ch).1<=dN l
 | [],ch=>by simp [kB,dN]
 | t::l,ch=>by
  rw [kB,xA];cases oM g t ch
  ·rw [cond_false];obtain⟨i1,i2⟩:=FE g l true;rw [i1,dT (show dN (kB g l true).1<1+fV t+dN l by omega)];exact⟨by simp,by omega⟩
  ·rw [cond_true];obtain⟨i1,i2⟩:=FE g l (t_ g t ch);obtain⟨c1,c2⟩:=UM g t ch;dsimp only;rw [xA,i1];refine⟨?_,by omega⟩;generalize (kB g l (t_ g t ch)).1=r at i2 ⊢;rw [c1,Bool.or_assoc]
   congr 1
   by_cases q:fV (jG g t ch)<fV t
   ·rw [dT q,dT (show 1+fV (jG g t ch)+dN r<1+fV t+dN l by omega)]; rfl
   ·rw [dF q,Bool.false_or];exact decide_eq_decide.2 (by omega)
structure Cu (t:ah):Prop where
 k:t.ai=1\/t.ai=2\/t.ai=3\/t.ai=4\/t.ai=5
 f:t.ai=1\/t.ai=2\/t.aq.l=[]
 m:t.ai=3\/t.ai=4\/t.ax.l=[]
 i:t.ai=5\/t.aF.l=[]
theorem UN {g:Bs->Bool}{t:ah}(h:Cu t):oM g t false=me g t:=by
 have hl:(ua g t false).length=(iQ g t.aq.l).length:=by
  have:=congrArg List.length (LW g t.aq.l false);rw [List.length_map,List.length_map] at this; exact this
 have p:t.aF.l=[]->bad g t.aF.l=false/\iP g t.aF.l=[]:=fun e=>by rw [e]; exact⟨rfl,rfl⟩
 have em:t.ax.l=[]->(rM g t)=[]:=fun e=>by unfold rM; rw [e]; cases decide (t.ai=(3:Int))<;>rfl
 have q:t.aq.l=[]->(iQ g t.aq.l)=[]:=fun e=>by rw [e]; rfl
 unfold oM me;rw [hl,Ct,LV];rcases h.k with k|k|k|k|k
 ·have b:t.aF.l=[]:=by rcases h.i with i|i; (rw [k] at i; cases i); exact i
  have j:t.ax.l=[]:=by rcases h.m with i|i|i; (rw [k] at i; cases i); (rw [k] at i; cases i); exact i
  rw [k,(p b).1,(p b).2,em j];simp
 ·have b:t.aF.l=[]:=by rcases h.i with i|i; (rw [k] at i; cases i); exact i
  have j:t.ax.l=[]:=by rcases h.m with i|i|i; (rw [k] at i; cases i); (rw [k] at i; cases i); exact i
  rw [k,(p b).1,(p b).2,em j];simp
 ·have b:t.aF.l=[]:=by rcases h.i with i|i; (rw [k] at i; cases i); exact i
  have j:t.aq.l=[]:=by rcases h.f with i|i|i; (rw [k] at i; cases i); (rw [k] at i; cases i); exact i
  rw [k,(p b).1,(p b).2,q j];simp
 ·have b:t.aF.l=[]:=by rcases h.i with i|i; (rw [k] at i; cases i); exact i
  have j:t.aq.l=[]:=by rcases h.f with i|i|i; (rw [k] at i; cases i); (rw [k] at i; cases i); exact i
  rw [k,(p b).1,(p b).2,q j];simp
 ·have b:t.aq.l=[]:=by rcases h.f with i|i|i; (rw [k] at i; cases i); (rw [k] at i; cases i); exact i
  have j:t.ax.l=[]:=by rcases h.m with i|i|i; (rw [k] at i; cases i); (rw [k] at i; cases i); exact i
  rw [k,em j,q b];cases e:bad g t.aF.l
  ·rw [FC e]; simp
  ·simp
theorem UO {g:Bs->Bool}{t:ah}(h:me g t=true):bq (jG g t false)=rN g t:=by
 unfold me at h;have b:bad g t.aF.l=false:=by cases e:bad g t.aF.l with|false=>rfl|true=>rw [e] at h; cases h
 unfold rN bq jG rT ua;dsimp only;rw [LW,Ct,FC b,Cs];rfl
theorem LZ {l n:List ah}(h:l.map bq=n) (b:∀t∈l,Cu t):(gv l).1.map bq=rd n:=by
 have hg:jR n=jR l:=UH (by rw [<- h,iE Fz]);unfold rd gv;rw [zW,hg,<- h,List.filter_map,show me (jR l) ∘ bq=me (jR l) from funext fun t=>UJ _ t,List.map_map,List.map_map,
  List.filter_congr fun t ht=>UN (g:=jR l) (b t ht)]
 refine List.map_congr_left fun t ht=>?_;show bq (jG (jR l) t false)=rN (jR l) (bq t);rw [UK,UO (List.mem_filter.1 ht).2]
theorem UP (l:List Z6):eN (l.map ct)=eN l:=by
 unfold eN; rw [List.map_map]
 congr 1
 refine List.map_congr_left fun f _=>?_;show 1+(f.ay.l.map b8).length=_;rw [List.length_map]
theorem L0 (t:ah):fV (bq t)=fV t:=by
 unfold fV;rw [show (bq t).aq.l=t.aq.l.map ct from rfl,show (bq t).ax.l=t.ax.l.map d_ from rfl,show (bq t).aF.l=t.aF.l.map b8 from rfl,show (bq t).aM.l=t.aM.l from rfl,UP,List.length_map,List.length_map]
theorem Cv (l:List ah):dN (l.map bq)=dN l:=by
 unfold dN; rw [List.map_map]
 congr 1
 refine List.map_congr_left fun t _=>?_;show 1+fV (bq t)=_;rw [L0]
theorem FF (l:List ah):(gv l).2=decide (dN (gv l).1<dN l):=by
 unfold gv; rw [(FE _ l false).1,Bool.false_or]
def lC {α:Type}(a b:Sl α):Prop:=(a.nl=true->a.l=[])/\a.l.Sublist b.l
theorem lC.o1 {α:Type}{l:List α}{b:Sl α}(h:l.Sublist b.l):lC (bF l) b:=⟨fun e=>List.isEmpty_iff.1 e,h⟩
theorem lC.wf {α:Type}{p:α->Prop}{a b:Sl α}(h:lC a b) (f:Sl.wf p b):Sl.wf p a:=⟨h.1,Nat.le_trans h.2.length_le f.2.1,fun x hx=>f.2.2 x (h.2.subset hx)⟩
theorem FG {α:Type}{f:α->Nat}{l m:List α}(h:l.Sublist m):(l.map f).sum<=(m.map f).sum:=by
 induction h with
 | slnil=>exact Nat.le_refl _
 | cons a _ b=>rw [List.map_cons,List.sum_cons]; omega
 | cons_cons a _ b=>rw [List.map_cons,List.sum_cons,List.map_cons,List.sum_cons]; omega
theorem lC.sz {α:Type}{f:α->Nat}{a b:Sl α}(h:lC a b):Sl.sz f a<=Sl.sz f b:=by
 have:=FG (f:=f) h.2;show 1+(a.l.map f).sum<=1+(b.l.map f).sum;omega
structure xB (u f:Z6):Prop where
 n:u.aa=f.aa
 t:u.av=f.av
 d:u.bf=f.bf
 a:lC u.ay f.ay
structure kC (u t:ah):Prop where
 k:u.ai=t.ai
 n:u.aa=t.aa
 d:u.bf=t.bf
 p:lC u.aM t.aM
 m:lC u.ax t.ax
 i:lC u.aF t.aF
 f:(u.aq.nl=true->u.aq.l=[])/\∃l,l.Sublist t.aq.l/\aW xB u.aq.l l
structure nt (t:ah):Prop where
 wf:t.wf
 nv:Cu t
 sz:t.sz<=1048576
 p:t.aM.l.length<=1000000
 ins:l_ nB t
 args:∀f∈t.aq.l,∀x∈f.ay.l,oA nB x
theorem xB.ok {u f:Z6}(h:xB u f) (hw:f.wf):u.wf/\u.sz<=f.sz:=by
 refine⟨⟨trivial,h.a.wf (Z6.kO hw),by rw [h.t]; exact Z6.ww hw,by rw [h.d]; exact Z6.jo hw,trivial⟩, ?_⟩;have h1:=u.bt;have b:=f.bt;rw [h.n,h.t,h.d] at h1;have g:=h.a.sz (f:=Z7.sz);omega
theorem Cw {α β:Type}{R:α->β->Prop}{l:List α}{m:List β}(h:aW R l m):∀x∈l,∃y∈m,R x y:=by
 induction h with
 | nil=>intro x hx; cases hx
 | cons r _ b =>
  intro x hx;rcases List.mem_cons.1 hx with rfl|hx
  ·exact⟨_,.head _,r⟩
  ·obtain⟨y,h1,f⟩:=b x hx; exact⟨y,.tail _ h1,f⟩
theorem kC.nf {u t:ah}(h:kC u t):t.aq.l=[]->u.aq.l=[]:=fun e=>by
 obtain⟨_,l,hl,g⟩:=h.f;rw [e] at hl;have:=List.sublist_nil.1 hl; subst this;cases hx:u.aq.l with
 | nil=>rfl
 | cons a b=>rw [hx] at g; cases g
theorem lC.nil {α:Type}{a b:Sl α}(h:lC a b) (e:b.l=[]):a.l=[]:=by
 have:=h.2; rw [e] at this; exact List.sublist_nil.1 this
theorem kC.ok {u t:ah}(h:kC u t) (ht:nt t):nt u/\u.sz<=t.sz:=by
 obtain⟨f1,l,f2,f3⟩:=h.f;have g:=ah.qB ht.wf;have q:∀x∈u.aq.l,∃y∈t.aq.l,xB x y:=fun x hx=>by obtain⟨y,h1,b⟩:=Cw f3 x hx; exact⟨y,f2.subset h1,b⟩
 have r:u.sz<=t.sz:=by
  have h1:=u.bt;have b:=t.bt;rw [h.n,h.d] at h1;have a1:=h.p.sz (f:=Bs.sz);have a2:=h.m.sz (f:=Z8.sz);have a3:=h.i.sz (f:=Z7.sz);have a4:Sl.sz Z6.sz u.aq<=Sl.sz Z6.sz t.aq:=by
   have s:∀{l:List Z6}{m:List Z6},aW xB l m->(∀y∈m,y.wf)->(l.map Z6.sz).sum<=(m.map Z6.sz).sum:=fun {l m} v hw=>by
    induction v with
    | nil=>exact Nat.le_refl _
    | cons x _ w=>have:=(x.ok (hw _ (.head _))).2; have:=w fun y j=>hw y (.tail _ j); rw [List.map_cons,List.sum_cons,List.map_cons,List.sum_cons]; omega
   have B:=s f3 fun y j=>g.2.2 y (f2.subset j);have C:=FG (f:=Z6.sz) f2;show 1+(u.aq.l.map Z6.sz).sum<=1+(t.aq.l.map Z6.sz).sum;omega
  omega
 have hw:=ht.wf;refine⟨⟨⟨by rw [h.k]; exact ht.wf.1,trivial,h.p.wf (ah.yW hw),by rw [h.d]; exact ah.jo hw,⟨f1, ?_,fun x hx=>?_⟩,h.m.wf (ah.wx hw),h.i.wf (ah.uR hw),trivial⟩, ?_,by have:=ht.sz; omega,Nat.le_trans h.p.2.length_le ht.p,⟨Nat.le_trans h.i.2.length_le ht.ins.1,fun x hx=>ht.ins.2 x (h.i.2.subset hx)⟩,fun f z x hx=>?_⟩,r⟩
 ·rw [f3.length]; exact Nat.le_trans f2.length_le g.2.1
 ·obtain⟨y,h1,b⟩:=q x hx; exact(b.ok (g.2.2 y h1)).1
 ·refine⟨by rw [h.k]; exact ht.nv.k, ?_, ?_, ?_⟩
  ·rw [h.k]; exact ht.nv.f.imp id (fun o=>o.imp id h.nf)
  ·rw [h.k]; exact ht.nv.m.imp id (fun o=>o.imp id h.m.nil)
  ·rw [h.k]; exact ht.nv.i.imp id h.i.nil
 ·obtain⟨y,h1,b⟩:=q f z;exact ht.args y h1 x (b.a.2.subset hx)
theorem UQ (x:Z8):2<=x.sz:=by
 have h:=x.bt;have:Bs.sz x.aa=x.aa.length+1:=rfl;have b:Sl.sz aA.sz x.bf=1+(x.bf.l.map aA.sz).sum:=rfl;omega
theorem UR (x:Z6):2<=x.sz:=by
 have h:=x.bt;have:Bs.sz x.aa=x.aa.length+1:=rfl;have b:Sl.sz aA.sz x.bf=1+(x.bf.l.map aA.sz).sum:=rfl;omega
theorem FH {α:Type}{f:α->Nat}(h:∀x,2<=f x):∀l:List α,2*l.length<=(l.map f).sum
 | []=>Nat.le_refl _
 | a::l=>by have:=h a; have:=FH h l; rw [List.map_cons,List.sum_cons,List.length_cons]; omega
theorem nt.xC {t:ah}(h:nt t):xC t=true:=by
 have h0:=h.sz;have b:=t.bt;have f:=FH UR t.aq.l;have g:=FH UQ t.ax.l;have j:Sl.sz Z6.sz t.aq=1+(t.aq.l.map Z6.sz).sum:=rfl;have k:Sl.sz Z8.sz t.ax=1+(t.ax.l.map Z8.sz).sum:=rfl;unfold Go.Proofs.xC;rw [dT (by omega),dT (by omega),dT h.p]; rfl
structure fM (l:List ah):Prop where
 each:∀t∈l,nt t
 len:l.length<=1000
 sum:(l.map ah.sz).sum+1<=1048576
theorem fM.jS {l:List ah}(h:fM l):jS l=true:=by
 unfold Go.Proofs.jS;rw [dT (by have:=h.len; omega),List.all_eq_true.2 fun t ht=>(h.each t ht).xC]; rfl
theorem fM.dN {l:List ah}(h:fM l):dN l<=1048576:=by
 have key:∀l:List ah,(∀t∈l,1+fV t<=t.sz)->Go.Proofs.dN l<=(l.map ah.sz).sum:=fun l=>by
  induction l with
  | nil=>intro _; exact Nat.le_refl _
  | cons a l b=>intro h; rw [xA,List.map_cons,List.sum_cons]; have:=h a (.head _); have:=b fun t ht=>h t (.tail _ ht); omega
 have h1:=key l fun t _=>by
  have j:=t.bt;have k:=Sl.eV (f:=Bs.sz) t.aM (fun x=>Bs.mA x);have m:=Sl.eV (f:=Z8.sz) t.ax Z8.pos;have p:=Sl.eV (f:=Z7.sz) t.aF Z7.pos;have q:Sl.sz Z6.sz t.aq=1+(t.aq.l.map Z6.sz).sum:=rfl;have r:eN t.aq.l<=(t.aq.l.map Z6.sz).sum:=by
   unfold eN;generalize t.aq.l=g;induction g with
   | nil=>exact Nat.le_refl _
   | cons a g b =>
    rw [List.map_cons,List.sum_cons,List.map_cons,List.sum_cons];have a2:=a.bt;have a3:=Sl.eV (f:=Z7.sz) a.ay Z7.pos;have:Bs.sz a.aa=a.aa.length+1:=rfl;omega
  have:Bs.sz t.aa=t.aa.length+1:=rfl;unfold fV;omega
 have:=h.sum;omega
theorem fM.sub {l m:List ah}(h:fM l){g:List ah}(k:g.Sublist l) (j:aW kC m g):fM m:=by
 have h1:∀x∈m,∃y∈l,kC x y:=fun x hx=>by obtain⟨y,h1,q⟩:=Cw j x hx; exact⟨y,k.subset h1,q⟩
 refine⟨fun x hx=>by obtain⟨y,a,b⟩:=h1 x hx; exact(b.ok (h.each y a)).1,by rw [j.length]; exact Nat.le_trans k.length_le h.len, ?_⟩;have r:∀{m g:List ah},aW kC m g->(∀y∈g,nt y)->(m.map ah.sz).sum<=(g.map ah.sz).sum:=fun {m g} j hw=>by
  induction j with
  | nil=>exact Nat.le_refl _
  | cons x _ s=>have:=(x.ok (hw _ (.head _))).2; have:=s fun y p=>hw y (.tail _ p); rw [List.map_cons,List.sum_cons,List.map_cons,List.sum_cons]; omega
 have t:=r j fun y p=>h.each y (k.subset p);have u:=FG (f:=ah.sz) k;have:=h.sum;omega
theorem Cx {α β:Type}{R:β->α->Prop}{f:α->β}:∀{l:List α},(∀x∈l,R (f x) x)->aW R (l.map f) l
 | [],_=>.nil
 | a::_,h=>.cons (h a (.head _)) (Cx fun x hx=>h x (.tail _ hx))
theorem L3 (g:Bs->Bool){s:Sl Z7}(h:s.nl=true->s.l=[]):lC (gH g s) s:=by
 refine⟨fun e=>?_,List.filter_sublist⟩;show s.l.filter _=[];rw [h e]; rfl
theorem FI (g:Bs->Bool){t:ah}(hw:t.wf):kC (jG g t false) t:=by
 refine⟨rfl,rfl,rfl,⟨fun e=>?_,List.filter_sublist⟩, ?_,L3 g (ah.uR hw).1,fun e=>List.isEmpty_iff.1 e,_,List.filter_sublist (p:=oL g), ?_⟩
 ·show t.aM.l.filter _=[];rw [(ah.yW hw).1 e]; rfl
 ·unfold jG tZ;dsimp only;cases decide (t.ai=(3:Int))
  ·exact⟨(ah.wx hw).1,List.Sublist.refl _⟩
  ·refine⟨fun e=>?_,List.filter_sublist⟩;show t.ax.l.filter _=[];rw [(ah.wx hw).1 e]; rfl
 ·show aW xB (gJ g t.aq.l false).1 _;rw [xy];exact Cx fun f b=>⟨rfl,rfl,rfl,L3 g (Z6.kO ((ah.qB hw).2.2 f (List.mem_filter.1 b).1)).1⟩
theorem fM.nR {l:List ah}(h:fM l):fM (gv l).1:=by
 unfold gv;rw [zW];exact h.sub List.filter_sublist (Cx fun t ht=>FI _ (h.each t (List.mem_filter.1 ht).1).wf)
theorem Cy {α:Type}{p:α->Bool}{l:List α}(h:(l.filter p).length=l.length):l.filter p=l:=(List.filter_sublist (p:=p) (l:=l)).eq_of_length h
theorem L4 (g:Bs->Bool):∀l:List Z6,eN (iQ g l)<=eN l/\(eN (iQ g l)=eN l->(iQ g l).map ct=l.map ct)
 | []=>⟨Nat.le_refl _,fun _=>rfl⟩
 | f::l=>by
  obtain⟨i1,i2⟩:=L4 g l;have hc:∀(f:Z6) l,eN (f::l)=1+f.ay.l.length+eN l:=fun f l=>by unfold eN; rw [List.map_cons,List.sum_cons]
  have hu:(iP g f.ay.l).length<=f.ay.l.length:=List.length_filter_le _ _;have e:iQ g (f::l)=if oL g f=true then rF g f::iQ g l else iQ g l:=by unfold iQ; rw [List.filter_cons]; split<;>rfl
  rw [e]
  split
  ·rw [hc,hc,show (rF g f).ay.l=iP g f.ay.l from rfl];refine⟨by omega,fun h=>?_⟩;rw [List.map_cons,List.map_cons,i2 (by omega)];have b:iP g f.ay.l=f.ay.l:=Cy (by show (iP g f.ay.l).length=_; omega)
   congr 1
   unfold rF ct;dsimp only [bF];rw [b]
  ·rw [hc]; exact⟨by omega,fun h=>by omega⟩
theorem US (g:Bs->Bool) (t:ah):fV (rN g t)<=fV t/\(fV (rN g t)=fV t->rN g t=bq t):=by
 unfold rN;rw [L0];obtain⟨i1,i2⟩:=L4 g t.aq.l;have hu:(iP g t.aF.l).length<=t.aF.l.length:=List.length_filter_le _ _;have q:(t.aM.l.filter fun x=>!g x).length<=t.aM.l.length:=List.length_filter_le _ _;have hm:=LX g t;have f:fV t=eN t.aq.l+t.ax.l.length+t.aF.l.length+t.aM.l.length:=rfl;have j:fV (rT g t)=eN (iQ g t.aq.l)+(rM g t).length+(iP g t.aF.l).length+(t.aM.l.filter fun x=>!g x).length:=by
  unfold fV rT; dsimp only; rw [Cs]; rfl
 rw [f,j];refine⟨by omega,fun h=>?_⟩;have k:(t.aM.l.filter fun x=>!g x)=t.aM.l:=Cy (by omega);have m:iP g t.aF.l=t.aF.l:=Cy (by show (iP g t.aF.l).length=_; omega);have p:rM g t=t.ax.l:=by
  have b:(rM g t).length=t.ax.l.length:=by omega
  unfold rM at b ⊢;cases c:decide (t.ai=(3:Int))
  ·rfl
  ·rw [c,cond_true] at b; rw [cond_true]; exact Cy b
 unfold bq rT;dsimp only;rw [Cs,p,k,show (bF (iQ g t.aq.l)).l=iQ g t.aq.l from rfl,i2 (by omega),show (bF (iP g t.aF.l)).l=iP g t.aF.l from rfl,m];rfl
theorem L5 (g:Bs->Bool):∀l:List ah,dN ((l.filter (me g)).map (rN g))<=dN l/\(dN ((l.filter (me g)).map (rN g))=dN l->(l.filter (me g)).map (rN g)=l.map bq)
 | []=>⟨Nat.le_refl _,fun _=>rfl⟩
 | t::l=>by
  obtain⟨i1,i2⟩:=L5 g l;obtain⟨f,b⟩:=US g t;rw [List.filter_cons]
  split
  ·rw [List.map_cons,xA,xA,List.map_cons];exact⟨by omega,fun h=>by rw [i2 (by omega),b (by omega)]⟩
  ·rw [xA]; exact⟨by omega,fun h=>by omega⟩
theorem L6 {n:List ah}(hn:n.map bq=n) (h:¬dN (rd n)<dN n):rd n=n:=by
 obtain⟨h1,b⟩:=L5 (jR n) n;unfold rd at h ⊢;rw [b (by omega),hn]
inductive qc:List ah->List ah->Prop where
 | stop {n:List ah}(h:¬dN (rd n)<dN n):qc n n
 | step {n r:List ah}(h:dN (rd n)<dN n) (t:qc (rd n) r):qc n r
theorem qc.UT {n r f:List ah}(h:qc n r) (h':qc n f):r=f:=by
 induction h with
 | stop h =>
  cases h' with
  | stop _=>rfl
  | step b _=>exact absurd b h
 | step h _ g =>
  cases h' with
  | stop b=>exact absurd h b
  | step _ t=>exact g t
theorem qc.fix {n r:List ah}(h:qc n r):¬dN (rd r)<dN r:=by
 induction h with
 | stop h=>exact h
 | step _ _ b=>exact b
theorem UU:∀(c:Nat) (l:List ah) (m:Nat),dN l<=c->c<m->fM l->∃P,oN m l=some P/\qc (l.map bq) (P.map bq)/\fM P:=by
 intro c;induction c with
 | zero =>
  intro l m h1 f hk;obtain⟨m,rfl⟩:∃k,m=k+1:=⟨m-1,by omega⟩;have hr:=LZ (l:=l) rfl fun t ht=>(hk.each t ht).nv;have b:(gv l).2=false:=by rw [FF]; exact dF (by omega)
  refine⟨(gv l).1,by rw [oN,hk.jS,cond_true,b]; rfl, ?_,hk.nR⟩;have hn:¬dN (rd (l.map bq))<dN (l.map bq):=by rw [Cv]; omega
  rw [hr,L6 (iE Fz l) hn];exact .stop hn
 | succ c g =>
  intro l m h1 f hk;obtain⟨m,rfl⟩:∃k,m=k+1:=⟨m-1,by omega⟩;have hr:=LZ (l:=l) rfl fun t ht=>(hk.each t ht).nv;have hc:dN (rd (l.map bq))=dN (gv l).1:=by rw [<- hr,Cv]
  by_cases q:dN (gv l).1<dN l
  ·obtain⟨P,j,p,r⟩:=g (gv l).1 m (by omega) (by omega) hk.nR;refine⟨P,by rw [oN,hk.jS,cond_true,FF,dT q,cond_true]; exact j,.step (by rw [hc,Cv]; exact q) (by rw [<- hr]; exact p),r⟩
  ·have b:(gv l).2=false:=by rw [FF]; exact dF q
   refine⟨(gv l).1,by rw [oN,hk.jS,cond_true,b]; rfl, ?_,hk.nR⟩;have hn:¬dN (rd (l.map bq))<dN (l.map bq):=by rw [hc,Cv]; exact q
   rw [hr,L6 (iE Fz l) hn];exact .stop hn
theorem rE {α:Type}{l r:List α}{i:Nat}{x:α}(h:l.drop i=x::r):l.drop (i+1)=r/\l[i]?=some x:=by
 refine⟨by rw [<- List.drop_drop,h]; rfl, ?_⟩;have:=congrArg List.head? h;rw [List.head?_drop] at this;exact this
theorem FJ (a:Int):vw a a=some 0:=by
 rw [UW]; unfold Cz;rw [dF (by omega),cond_false]; rfl
theorem L7:∀x:Bs,Op.bytesLess x x=false
 | []=>by simp [Op.bytesLess]
 | a::x=>by rw [Op.bytesLess,L7 x]; simp
theorem L8 (a:Bs):xD a a=some 0:=by
 rw [UX]; unfold CA;rw [L7,cond_false,Bool.false_or,beq_iff_eq.mpr rfl]; rfl
theorem FK {w v:Z9}(h:cn w=cn v):w.ai=v.ai/\w.bA=v.bA/\w.bp=v.bp/\w.aB.l.map cn=v.aB.l.map cn/\w.aR=v.aR:=by
 rw [oF w,oF v] at h
 injection h with h1 b f k g j
 exact⟨h1,b,f,g,j⟩
theorem UY {w v:Z9}(h:w.aR=v.aR) (i:Nat):∃s,rG w (i:Int)=some s/\rG v (i:Int)=some s:=by
 rw [show rG w (i:Int)=rG v (i:Int) from by rw [FL,FL]; unfold zX; rw [h]];rw [FL]; unfold zX c_;by_cases h:i<v.aR.l.length
 ·rw [dT (by omega),cond_true,if_pos (by omega),show (i:Int).toNat=i from by omega,List.getElem?_eq_getElem h];exact⟨_,rfl,rfl⟩
 ·rw [dF (by omega),cond_false];exact⟨_,rfl,rfl⟩
theorem L9 {w v:Z9}(he:cn w=cn v){k:Z9->Z9->Option Int}(hk:∀y,∀x∈v.aB.l,cn y=cn x->k y x=some 0) (hl:v.aB.l.length<=1048576):∀n j:Nat,j<=v.aB.l.length->v.aB.l.length<j+n->uc w v k n 0 (j:Int)=some 0
 | 0,j,_,h=>by omega
 | n+1,j,h1,m=>by
  obtain⟨_,_,_,hi,b⟩:=FK he;have hlen:w.aB.l.length=v.aB.l.length:=by have:=congrArg List.length hi; rwa [List.length_map,List.length_map] at this
  rw [uc,show decide ((0:Int)=0)=true from rfl,cond_true,hlen,Bool.or_self];by_cases h:j<v.aB.l.length
  ·obtain⟨s,f,g⟩:=UY b j;have hx:cn w.aB.l[j]=cn v.aB.l[j]:=by
    have:=congrArg (fun l=>l[j]?) hi;simp only [List.getElem?_map,List.getElem?_eq_getElem h,List.getElem?_eq_getElem (show j<w.aB.l.length by omega),Option.map_some,Option.some.injEq] at this;exact this
   rw [dF (by omega),cond_false,f,oB,g,oB,L8,oB,show decide ((0:Int)=0)=true from rfl,cond_true];unfold c_;rw [if_pos (by omega),if_pos (by omega),show (j:Int).toNat=j from by omega,List.getElem?_eq_getElem h,List.getElem?_eq_getElem (show j<w.aB.l.length by omega),oB,oB,hk _ _ (List.getElem_mem h) hx,oB]
   unfold zY;rw [iL (by omega),oB];exact L9 he hk hl n (j+1) (by omega) (by omega)
  ·rw [dT (by omega),cond_true,FJ]; rfl
theorem L_:∀(n:Nat) (w v:Z9),cn w=cn v->v.sz<n->v.sz<=1048576->nw n w v=some 0
 | 0,_,_,_,h,_=>by omega
 | n+1,w,v,he,h,m=>by
  have p:=v.bt;have hlen:v.aB.l.length<=1048576:=by have:=Sl.eV (f:=Z9.sz) v.aB (fun x=>x.pos); omega
  obtain⟨b,g,j,_⟩:=FK he;rw [nw,b,g,FJ,oB,show decide ((0:Int)=0)=true from rfl,cond_true,FJ,oB];unfold zZ;rw [show decide ((0:Int)=0)=true from rfl,cond_true,j,L8,oB];unfold z1;exact L9 he (fun y x hx k=>L_ n y x k (by have:=Z9.kQ hx; omega) (by have:=Z9.kQ hx; omega)) hlen F0 0 (by omega) (by rw [fR]; omega)
theorem Ma {w v:Z9}(he:cn w=cn v) (b:v.sz<=1048576):xE w v=some true:=by
 unfold xE FM;rw [L_ F0 w v he (by rw [fR]; omega) b]; rfl
theorem qd {α β:Type}{f:α->β}{a:α}{l r:List α}(h:r.map f=(a::l).map f):∃b m,r=b::m/\f b=f a/\m.map f=l.map f:=by
 cases r with
 | nil=>cases h
 | cons b m=>injection h with h1 g; exact⟨b,m,rfl,h1,g⟩
theorem xF {α β:Type}{f:α->β}{r:List α}(h:r.map f=([]:List α).map f):r=[]:=List.map_eq_nil_iff.1 h
theorem vz {α β:Type}{f:α->β}{r l:List α}(h:r.map f=l.map f):((r.length:Nat):Int)=((l.length:Nat):Int):=by have:=congrArg List.length h; rw [List.length_map,List.length_map] at this; rw [this]
theorem qe {α:Type}{l m:List α}(h:bF l=bF m):l=m:=congrArg Sl.l h
theorem Mb {y x:bT}(h:iO y=iO x):y.aa=x.aa/\cn y.gr=cn x.gr:=by injection h with h1 b; exact⟨h1,b⟩
theorem Mc {y x:aA}(h:dx y=dx x):y.aa=x.aa/\y.ay.l.map iO=x.ay.l.map iO:=by injection h with h1 b; exact⟨h1,qe b⟩
theorem FN {y x:Z7}(h:b8 y=b8 x):y.aa=x.aa/\y.av=x.av/\y.ck=x.ck/\cn y.cR=cn x.cR/\y.bf.l.map dx=x.bf.l.map dx:=by
 injection h with h1 b f g j; exact⟨h1,b,f,g,qe j⟩
theorem UZ {y x:Z6}(h:ct y=ct x):y.aa=x.aa/\y.ay.l.map b8=x.ay.l.map b8/\y.av=x.av/\y.bf.l.map dx=x.bf.l.map dx:=by
 injection h with h1 b f g; exact⟨h1,qe b,f,qe g⟩
theorem U0 {y x:Z8}(h:d_ y=d_ x):y.aa=x.aa/\y.bf.l.map dx=x.bf.l.map dx:=by injection h with h1 b; exact⟨h1,qe b⟩
theorem U1 {y x:ah}(h:bq y=bq x):y.ai=x.ai/\y.aa=x.aa/\y.aM.l=x.aM.l/\y.bf.l.map dx=x.bf.l.map dx/\y.aq.l.map ct=x.aq.l.map ct/\y.ax.l.map d_=x.ax.l.map d_/\y.aF.l.map b8=x.aF.l.map b8:=by
 injection h with h1 b f g j k m; exact⟨h1,b,qe f,qe g,qe j,qe k,qe m⟩
theorem Md {y x:aA}(hx:∀a∈x.ay.l,a.sz<=1048576){a1:Sl aA}{j:Nat}(f:a1.l[j]?=some x):∀(l r:List bT) (i:Nat),r.map iO=l.map iO->x.ay.l.drop i=l->y.ay.l.drop i=r->vA a1 j y r i=some (Sum.inl ())
 | [],r,_,hm,_,_=>by rw [xF hm]; rfl
 | a::l,r,i,hm,h,h'=>by
  obtain⟨b,m,rfl,k,p⟩:=qd hm;obtain⟨h1,g⟩:=rE h;obtain⟨q,e⟩:=rE h';have v:=hx a (List.mem_of_getElem? g);have w:=a.bt;obtain⟨s,t⟩:=Mb k;rw [vA];simp only [on];have u:(b.aa==a.aa)=true:=beq_iff_eq.2 s;rw [f,oB,g,oB];simp only [u,Bool.not_true,Bool.not_false,aZ,if_true,cond_true,e,f,g,oB];rw [Ma t (by omega),oB]
  exact Md hx f l m (i+1) p h1 q
theorem Me {s:Sl aA}(g:∀x∈s.l,x.sz<=1048576):∀(l r:List aA) (j:Nat),r.map dx=l.map dx->s.l.drop j=l->vB s r j=some (Sum.inl ())
 | [],r,_,hm,_=>by rw [xF hm]; rfl
 | x::l,r,j,hm,h=>by
  obtain⟨y,m,rfl,p,q⟩:=qd hm;obtain⟨h1,b⟩:=rE h;have w:=g x (List.mem_of_getElem? b);have z:=x.bt;obtain⟨t,k⟩:=Mc p;rw [vB];simp only [on];have u:(y.aa==x.aa)=true:=beq_iff_eq.2 t;have el:=vz k;rw [b,oB];simp only [u,Bool.not_true,Bool.not_false,aZ,if_true,cond_true,b,oB,el,decide_true,Bool.or_self,cond_false]
  rw [Md (y:=y) (fun a v=>by have:=Sl.de (f:=bT.sz) v; omega) b x.ay.l y.ay.l 0 k rfl rfl,oB];exact Me g l m (j+1) q h1
theorem CB {r s:Sl aA}(he:r.l.map dx=s.l.map dx) (h:Sl.sz aA.sz s<=1048576):ud r s=some true:=by
 unfold ud;rw [vz he,dT rfl,Bool.not_true,cond_false,Me (fun x hx=>by have:=Sl.de (f:=aA.sz) hx; omega) s.l r.l 0 he rfl]; rfl
theorem Mf (a:Sl Int):∀(l:List Int) (i:Nat),a.l.drop i=l->pE a l i=some (Sum.inl ())
 | [],_,_=>rfl
 | x::l,i,h=>by
  obtain⟨h1,b⟩:=rE h;rw [pE];simp only [on];rw [b,oB,dT rfl];exact Mf a l (i+1) h1
theorem Mg (t:aL):qI t t=some true:=by
 unfold qI uS;rw [Mf t.aH t.aH.l 0 rfl,dT rfl,beq_iff_eq.2 rfl]; rfl
theorem Mh {s:Sl Z7}(b:∀x∈s.l,x.sz<=1048576):∀(l r:List Z7) (j:Nat),r.map b8=l.map b8->s.l.drop j=l->ue s r j=some (Sum.inl ())
 | [],r,_,hm,_=>by rw [xF hm]; rfl
 | x::l,r,j,hm,h=>by
  obtain⟨y,m,rfl,g,k⟩:=qd hm;obtain⟨h1,f⟩:=rE h;have z:=b x (List.mem_of_getElem? f);have B:=x.bt;obtain⟨p,q,t,n4,u⟩:=FN g;rw [ue];simp only [on];have v:(y.aa==x.aa)=true:=beq_iff_eq.2 p;have w:(y.ck==x.ck)=true:=beq_iff_eq.2 t;rw [f,oB];simp only [v,w,Bool.not_true,Bool.not_false,aZ,if_true,cond_true,Bool.or_self,Bool.or_false]
  rw [q,Mg,oB];simp only [Bool.not_true,Bool.not_false,if_true,Bool.or_self,Bool.or_false];rw [Ma n4 (by omega),oB];simp only [Bool.not_true,Bool.not_false,if_true,Bool.or_self,Bool.or_false];rw [CB u (by omega),oB];exact Mh b l m (j+1) k h1
theorem Mi {r s:Sl Z7}(he:r.l.map b8=s.l.map b8) (h:Sl.sz Z7.sz s<=1048576):uf r s=some true:=by
 unfold uf;rw [vz he,dT rfl,Bool.not_true,cond_false,Mh (fun x hx=>by have:=Sl.de (f:=Z7.sz) hx; omega) s.l r.l 0 he rfl]; rfl
theorem Mj (a:Sl Bs):∀(l:List Bs) (i:Nat),a.l.drop i=l->ug a l i=some (Sum.inl ())
 | [],_,_=>rfl
 | x::l,i,h=>by
  obtain⟨h1,b⟩:=rE h;rw [ug];simp only [on];rw [b,oB,beq_iff_eq.2 rfl];exact Mj a l (i+1) h1
theorem U2 {b a:Sl Bs}(h:b.l=a.l):z6 b a=some true:=by
 unfold z6;rw [h,dT rfl,Bool.not_true,cond_false,Mj a a.l 0 rfl]; rfl
theorem Mk {t:ah}(b:∀x∈t.aq.l,x.sz<=1048576):∀(l r:List Z6) (j:Nat),r.map ct=l.map ct->t.aq.l.drop j=l->uh t r j=some (Sum.inl ())
 | [],r,_,hm,_=>by rw [xF hm]; rfl
 | x::l,r,j,hm,h=>by
  obtain⟨y,m,rfl,g,k⟩:=qd hm;obtain⟨h1,f⟩:=rE h;have v:=b x (List.mem_of_getElem? f);have w:=x.bt;obtain⟨p,q,s,n4⟩:=UZ g;rw [uh];simp only [on];have u:(y.aa==x.aa)=true:=beq_iff_eq.2 p;rw [f,oB];simp only [u,Bool.not_true,Bool.not_false,aZ,if_true,cond_true,Bool.or_self,Bool.or_false];rw [s,Mg,oB];simp only [Bool.not_true,Bool.not_false,if_true,Bool.or_self,Bool.or_false]
  rw [CB n4 (by omega),oB];simp only [Bool.not_true,Bool.not_false,if_true,Bool.or_self,Bool.or_false];rw [Mi q (by omega),oB];exact Mk b l m (j+1) k h1
theorem Ml {t:ah}(f:∀x∈t.ax.l,x.sz<=1048576):∀(l r:List Z8) (j:Nat),r.map d_=l.map d_->t.ax.l.drop j=l->rH t r j=some (Sum.inl ())
 | [],r,_,hm,_=>by rw [xF hm]; rfl
 | x::l,r,j,hm,h=>by
  obtain⟨y,m,rfl,g,k⟩:=qd hm;obtain⟨h1,b⟩:=rE h;have u:=f x (List.mem_of_getElem? b);have v:=x.bt;obtain⟨p,q⟩:=U0 g;rw [rH];simp only [on];have s:(y.aa==x.aa)=true:=beq_iff_eq.2 p;rw [b,oB];simp only [s,Bool.not_true,Bool.not_false,aZ,if_true,cond_true,Bool.or_self,Bool.or_false,b,oB];rw [CB q (by omega),oB]
  exact Ml f l m (j+1) k h1
theorem U3 {u t:ah}(he:bq u=bq t) (s:t.sz<=1048576):z8 u t=some true:=by
 have v:=t.bt;obtain⟨j,k,m,n4,b,g,p⟩:=U1 he;unfold z8;have q:decide (u.ai=t.ai)=true:=dT j;have r:(u.aa==t.aa)=true:=beq_iff_eq.2 k;simp only [q,r,Bool.not_true,Bool.not_false,aZ,if_true,Bool.or_self,Bool.or_false];rw [U2 m,oB];simp only [Bool.not_true,Bool.not_false,if_true,Bool.or_self,Bool.or_false];rw [CB n4 (by omega),oB,vz b,vz g,dT rfl,dT rfl]
 simp only [Bool.not_true,Bool.or_self,cond_false];rw [Mk (fun x hx=>by have:=Sl.de (f:=Z6.sz) hx; omega) t.aq.l u.aq.l 0 b rfl,oB];simp only [on];rw [Ml (fun x hx=>by have:=Sl.de (f:=Z8.sz) hx; omega) t.ax.l u.ax.l 0 g rfl,oB];simp only [];rw [Mi p (by omega)]; rfl
theorem Mm {p:ak}(b:∀x∈p.aj.l,x.sz<=1048576):∀(l r:List ah) (j:Nat),r.map bq=l.map bq->p.aj.l.drop j=l->uj p r j=some (Sum.inl ())
 | [],r,_,hm,_=>by rw [xF hm]; rfl
 | x::l,r,j,hm,h=>by
  obtain⟨y,m,rfl,g,k⟩:=qd hm;obtain⟨h1,f⟩:=rE h;rw [uj];simp only [on];rw [f,oB,U3 g (b x (List.mem_of_getElem? f)),oB,Bool.not_true,cond_false];exact Mm b l m (j+1) k h1
theorem U4 {q p:ak}(he:q.aj.l.map bq=p.aj.l.map bq) (b:∀x∈p.aj.l,x.sz<=1048576):wU q p=some true:=by
 unfold wU;rw [vz he,dT rfl,Bool.not_true,cond_false,Mm b p.aj.l q.aj.l 0 he rfl]; rfl
theorem U5 {t:ah}(h:lR t=some true):Cu t:=by
  unfold lR at h;simp only [on] at h;rcases fT h with ⟨_,x5,_,h⟩|⟨_,h⟩<;>rcases gm h with ⟨_,h⟩|⟨_,h⟩;all_goals first
    | (cases h; done)
    | (cases e:n9 t.aM.l with
       | inr y=>rw [e] at h; have:=Es _ _ e; subst this; cases h
       | inl _ =>
         rw [e] at h;simp only at h;rcases gm h with ⟨b,h⟩|⟨_,h⟩
         · obtain⟨f,_,h⟩:=bx h
           simp at h b;exact⟨.inl b,.inl b,.inr (.inr h.1.2),.inr h.2⟩
         · rcases gm h with ⟨b,h⟩|⟨_,h⟩
           · rcases fT h with ⟨_,x,_,h⟩|⟨_,h⟩
             · simp at h b; exact⟨.inr (.inl b),.inr (.inl b),.inr (.inr h.1.2),.inr h.2⟩
             · simp at h
           · rcases gm h with ⟨b,h⟩|⟨_,h⟩
             · rcases fT h with ⟨_,x,_,h⟩|⟨_,h⟩
               · simp at h b; exact⟨.inr (.inr (.inl b)),.inr (.inr h.1.1.2),.inl b,.inr h.2⟩
               · simp at h
             · rcases gm h with ⟨b,h⟩|⟨_,h⟩
               · rcases fT h with ⟨_,x,_,h⟩|⟨_,h⟩
                 · simp at h b; exact⟨.inr (.inr (.inr (.inl b))),.inr (.inr h.1.1.2),.inr (.inl b),.inr h.2⟩
                 · simp at h
               · rcases gm h with ⟨b,h⟩|⟨_,h⟩
                 · rcases fT h with ⟨_,x,ex,h⟩|⟨_,h⟩
                   · simp at h b; exact⟨.inr (.inr (.inr (.inr b))),.inr (.inr h.1.1.1.2),.inr (.inr h.1.1.2),.inl b⟩
                   · simp at h
                 · cases h)
theorem U6 {d:ak}(hr:tf d=some true) (hw:d.wf) (m:d.sz<=1048576) (hl:d.aj.l.length<=70) (hm:∀x∈d.aj.l,Sm x):fM d.aj.l:=by
  have h0:=d.bt;have q:Sl.sz ah.sz d.aj=1+(d.aj.l.map ah.sz).sum:=rfl;refine⟨fun t ht=>?_,by omega,by omega⟩;have p:=ak.Er ht;have b:=hw.1.2.2 t ht;have g:=RO hr t ht;have r:=t.bt;refine⟨b,U5 g,by omega,by have:=(hm t ht).2.2.1; omega,TN (TH g) b (by omega),fun f j x hx=>?_⟩;have s:=Sl.de (f:=Z6.sz) j;have u:=f.bt;have v:=Sl.de (f:=Z7.sz) hx
  have k:f.wf:=(ah.qB b).2.2 f j;exact KG (TP g f j x hx) ((Z6.kO k).2.2 x hx) (by omega)
theorem fM.qf {l:List ah}(h:fM l):iD (ak.mk (bF l)):=by
  have b:=h.sum;have q:=(ak.mk (bF l)).bt;have f:Sl.sz ah.sz (ak.mk (bF l)).aj=1+(l.map ah.sz).sum:=rfl;exact⟨⟨Cb (by have:=h.len; unfold cA; omega) fun t ht=>(h.each t ht).wf,trivial⟩,by omega,fun t ht=>(h.each t ht).ins,fun t ht=>(h.each t ht).args⟩
theorem nt.cp {t:ah}(h:nt t):nt (bq t):=by
  have b:t.aq.l=[]->(bq t).aq.l=[]:=fun e=>by show t.aq.l.map ct=[]; rw [e]; rfl
  have j:t.ax.l=[]->(bq t).ax.l=[]:=fun e=>by show t.ax.l.map d_=[]; rw [e]; rfl
  have q:t.aF.l=[]->(bq t).aF.l=[]:=fun e=>by show t.aF.l.map b8=[]; rw [e]; rfl
  have n4:∀f∈(bq t).aq.l,∀x∈f.ay.l,oA nB x:=fun f r x hx=>by
    obtain⟨g,hg,rfl⟩:=List.mem_map.1 (show f∈t.aq.l.map ct from r);obtain⟨y,s,rfl⟩:=List.mem_map.1 (show x∈g.ay.l.map b8 from hx);exact Ci (h.args g hg y s)
  exact⟨KT h.wf,⟨h.nv.k,h.nv.f.imp id (fun o=>o.imp id b),h.nv.m.imp id (fun o=>o.imp id j),h.nv.i.imp id q⟩,by rw [Fi]; exact h.sz,h.p,LD h.ins,n4⟩
theorem Mn (i e:Sl Bs) (t:ah):(kM i e t).Sublist t.ax.l:=by
  unfold kM; cases decide (t.ai=(4:Int))
  · exact List.Sublist.refl _
  · exact List.filter_sublist
theorem U7 (i e:Sl Bs){t:ah}(hw:t.wf):kC (pT i e t) (bq t):=by
  refine⟨rfl,rfl,rfl,⟨(ah.yW hw).1,List.Sublist.refl _⟩,lC.o1 ((Mn i e t).map d_),⟨fun e=>List.isEmpty_iff.1 e,List.Sublist.refl _⟩,fun e=>List.isEmpty_iff.1 e,_,List.Sublist.map ct (List.filter_sublist (p:=fun f=>okF i e t f.bf)), ?_⟩;have:(pT i e t).aq.l=((xu i e t).map ct).map fun f=>f:=by rw [List.map_id']; rfl
  rw [this];refine Cx fun f b=>?_;obtain⟨g,_,rfl⟩:=List.mem_map.1 b;exact⟨rfl,rfl,rfl,fun e=>List.isEmpty_iff.1 e,List.Sublist.refl _⟩
theorem fM.cp {l:List ah}(h:fM l):fM (l.map bq):=by
  refine⟨fun t ht=>?_,by rw [List.length_map]; exact h.len,by rw [zK fun x _=>Fi x]; exact h.sum⟩;obtain⟨u,hu,rfl⟩:=List.mem_map.1 ht;exact(h.each u hu).cp
theorem fM.pT {i e:Sl Bs}{l m:List ah}(h:fM l) (hm:m.Sublist l):fM (m.map (pT i e)):=by
  refine h.cp.sub (hm.map bq) ?_;have:∀{m:List ah},(∀t∈m,t.wf)->aW kC (m.map (Go.Proofs.pT i e)) (m.map bq):=fun {m} hm=>by
    induction m with
    | nil=>exact .nil
    | cons a m b=>exact .cons (U7 i e (hm a (.head _))) (b fun t ht=>hm t (.tail _ ht))
  exact this fun t ht=>(h.each t (hm.subset ht)).wf
theorem U8 {d:ak}(hw:d.wf) (f:d.sz<=1048576):∃b,zf d=some b/\(b=true->fM d.aj.l/\iD d/\∃x,pJ d=some x/\x.l=[]):=by
  have no:∀m:Prop,∃b,some false=some b/\(b=true->m):=fun _=>⟨false,rfl,fun h=>by cases h⟩;obtain⟨p,q,j⟩:=T0 (d:=d) f;obtain⟨r,k⟩:=RM d f;unfold zf;rw [q,oB,k];cases p
  case true=>exact no _
  cases r
  case false=>exact no _
  have hk:=U6 k hw f (j rfl).1 (j rfl).2;have g:iD d:=⟨hw,f,fun t ht=>(hk.each t ht).ins,fun t ht=>(hk.each t ht).args⟩;obtain⟨_,x,_,s,_⟩:=zM g g rfl;rw [s];refine⟨decide (((x.l.length:Nat):Int)=(0:Int)),rfl,fun h=>⟨hk,g,x,rfl,List.length_eq_zero_iff.1 (by have:=oD h; omega)⟩⟩
theorem U9 {d:ak}(h:iD d){x:Sl Z5}(hx:pJ d=some x) (hn:x.l=[]):gZ d true=[]:=by
  have b:=h.sz;have h0:=d.bt;have hl:=Sl.iY (f:=ah.sz) d.aj ah.pos;obtain⟨k,_,g,n4⟩:=Jt b true;obtain⟨m,j⟩:=JJ (d:=d) (fun t ht=>(h.Cj ht).1) (by omega) true (by rw [<- g]; exact n4);unfold pJ at hx;rw [j,oB] at hx;cases hc:gZ d true with
  | nil=>rfl
  | cons a r =>
    rw [hc,show decide ((0:Int)<(((a::r:List Z5).length:Nat):Int))=true from dT (by simp only [List.length_cons]; omega),cond_true] at hx;cases hx; cases hn
theorem Mo (a:Bs):∀l:List bT,oO a (l.map iO)=(match oO a l with|.inl u=>.inl u|.inr e=>.inr (cn e.1,e.2))
  | []=>rfl
  | x::r=>by
    rw [List.map_cons,oO,oO,Mo a r];simp only [on,show (iO x).aa=x.aa from rfl];cases x.aa==a<;>rfl
theorem U_ (x:aA) (a:Bs):nq (dx x) a=(cn (nq x a).1,(nq x a).2):=by
  unfold nq;rw [show (dx x).ay.l=x.ay.l.map iO from rfl,Mo];cases oO a x.ay.l with
  | inl u=>show _=(cn (Z9.mk ..),false); rw [Fe]; rfl
  | inr e=>rfl
theorem FO (n a:Bs):∀(l:List aA) (b:Bool) (s:List Z9),lB n a (l.map dx) ⟨b,s.map cn⟩=(lB n a l ⟨b,s⟩).map fun r=>⟨r.nl,r.l.map cn⟩
  | [],_,_=>rfl
  | x::r,b,s=>by
    rw [List.map_cons,lB,lB];simp only [on,U_,show (dx x).aa=x.aa from rfl];cases (nq x a).2&&(x.aa==n)
    · exact FO n a r b s
    · simp only [cond_true,bh,List.length_map,List.length_cons,List.length_nil]
      split
      · have:=FO n a r (b&&false) (s++[(nq x a).1])
        rw [List.map_append] at this;exact this
      · rfl
theorem Mp:∀(l:List Z9) (s:Sl Bs),mc (l.map cn) s=mc l s
  | [],_=>rfl
  | x::r,s=>by
    rw [List.map_cons,mc,mc];simp only [on,show (cn x).ai=x.ai from by rw [oF]; rfl,show (cn x).bp=x.bp from by rw [oF]; rfl]
    congr 1; funext z; exact Mp r z
theorem U' (s:Sl aA):jt (bF (s.l.map dx))=jt s:=by
  have h:=FO [116,97,103] [110,97,109,101] s.l true [];rw [List.map_nil] at h;unfold jt zQ;rw [show (bF (s.l.map dx)).l=s.l.map dx from rfl,show (Sl.nil:Sl Z9)=(⟨true,[]⟩:Sl Z9) from rfl,h];cases lB [116,97,103] [110,97,109,101] s.l ⟨true,[]⟩ with
  | none=>rfl
  | some r=>simp only [Option.map_some,oB,on,Mp]
theorem FP (s:Sl aA):tg (bF (s.l.map dx))=tg s:=by unfold tg; rw [U']
def z_ (a b:List Z7):Prop:=∀x∈a,∃y∈b,b8 x=b8 y
structure Mq (f g:Z6):Prop where
  n:f.aa=g.aa
  t:f.av=g.av
  a:z_ f.ay.l g.ay.l
structure vC (x t:ah):Prop where
  k:x.ai=t.ai
  n:x.aa=t.aa
  p:∀s∈x.aM.l,s∈t.aM.l
  m:∀y∈x.ax.l,∃z∈t.ax.l,y.aa=z.aa
  i:z_ x.aF.l t.aF.l
  f:∀y∈x.aq.l,∃z∈t.aq.l,Mq y z
structure xG (i e:Sl Bs) (x:ah):Prop where
  ex:oK e x=true
  f:∀f∈x.aq.l,okF i e x f.bf=true
  m:x.ai=4->∀m∈x.ax.l,okF i e x m.bf=true
theorem okF_eq {i e:Sl Bs}{u t:ah}(h:u.bf=t.bf) (s:Sl aA):okF i e u s=okF i e t s:=by unfold okF; rw [h]
theorem kC.Va {i e:Sl Bs}{u t:ah}(h:kC u t) (b:xG i e t):xG i e u:=by
  obtain⟨_,l,h1,g⟩:=h.f;refine⟨by unfold oK; rw [h.d]; exact b.ex,fun f j=>?_,fun hk m hm=>?_⟩
  · obtain⟨y,p,q⟩:=Cw g f j
    rw [okF_eq h.d,q.d]; exact b.f y (h1.subset p)
  · rw [okF_eq h.d]; exact b.m (by rw [<- h.k]; exact hk) m (h.m.2.subset hm)
theorem kC.Vb {u x t:ah}(h:kC u x) (g:vC x t):vC u t:=by
  obtain⟨_,l,h1,v⟩:=h.f;refine⟨h.k.trans g.k,h.n.trans g.n,fun s j=>g.p s (h.p.2.subset j),fun y q=>g.m y (h.m.2.subset q),fun y q=>g.i y (h.i.2.subset q),fun f w=>?_⟩;obtain⟨y,q,j⟩:=Cw v f w;obtain⟨z,hz,r⟩:=g.f y (h1.subset q);exact⟨z,hz,j.n.trans r.n,j.t.trans r.t,fun a b=>r.a a (j.a.2.subset b)⟩
theorem Vc {i e:Sl Bs}{t:ah}(h:oK e t=true):xG i e (pT i e t):=by
  have b:∀s:Sl aA,okF i e (pT i e t) (bF (s.l.map dx))=okF i e t s:=fun s=>by
    unfold okF; rw [show (pT i e t).bf=bF (t.bf.l.map dx) from rfl,FP,FP]
  refine⟨by unfold oK at h ⊢; rw [show (pT i e t).bf=bF (t.bf.l.map dx) from rfl,FP]; exact h,fun f j=>?_,fun hk m hm=>?_⟩
  · obtain⟨g,hg,rfl⟩:=List.mem_map.1 (show f∈(xu i e t).map ct from j)
    exact(b g.bf).trans (List.mem_filter.1 hg).2
  · obtain⟨g,hg,rfl⟩:=List.mem_map.1 (show m∈(kM i e t).map d_ from hm)
    unfold kM at hg;rw [dT (show t.ai=4 from hk),cond_true] at hg;exact(b g.bf).trans (List.mem_filter.1 hg).2
theorem Vd (i e:Sl Bs) (t:ah):vC (pT i e t) t:=by
  have hi:∀l:List Z7,z_ (l.map b8) l:=fun l x hx=>by
    obtain⟨y,b,rfl⟩:=List.mem_map.1 hx; exact⟨y,b,xx y⟩
  refine⟨rfl,rfl,fun _ h=>h,fun y b=>?_,hi _,fun y b=>?_⟩
  · obtain⟨z,hz,rfl⟩:=List.mem_map.1 (show y∈(kM i e t).map d_ from b)
    exact⟨z,(Mn i e t).subset hz,rfl⟩
  · obtain⟨z,hz,rfl⟩:=List.mem_map.1 (show y∈(xu i e t).map ct from b)
    exact⟨z,(List.mem_filter.1 hz).1,rfl,rfl,hi _⟩
theorem Mr {Q:ah->Prop}(b:∀u t,kC u t->Q t->Q u):∀(m:Nat) (l P:List ah),oN m l=some P->(∀t∈l,nt t/\Q t)->∀t∈P,nt t/\Q t
  | 0,_,_,h,_=>by cases h
  | m+1,l,P,h,hl=>by
    have one:∀t∈(gv l).1,nt t/\Q t:=fun t ht=>by
      unfold gv at ht;rw [zW] at ht;obtain⟨u,hu,rfl⟩:=List.mem_map.1 ht;obtain⟨h1,f⟩:=hl u (List.mem_filter.1 hu).1;exact⟨((FI _ h1.wf).ok h1).1,b _ _ (FI _ h1.wf) f⟩
    rw [oN] at h;cases hk:jS l with
    | false=>rw [hk] at h; cases h
    | true =>
      rw [hk,cond_true] at h;cases hc:(gv l).2 with
      | false=>rw [hc] at h; cases h; exact one
      | true=>rw [hc,cond_true] at h; exact Mr b m _ P h one
theorem again {i e:Sl Bs}{t:ah}(h:xG i e t):bq (pT i e t)=bq t:=by
  have h1:xu i e t=t.aq.l:=List.filter_eq_self.2 h.f;have b:kM i e t=t.ax.l:=by
    unfold kM;by_cases hk:t.ai=(4:Int)
    · rw [dT hk,cond_true]; exact List.filter_eq_self.2 (h.m hk)
    · rw [dF hk,cond_false]
  unfold bq pT;rw [h1,b];dsimp only [bF];rw [iE vv,iE LP,iE Fy,iE xx]
theorem Ms {d:ak}{i e:Sl Bs}(h:fM d.aj.l):∃P a b,zg d i e=some (bif decide ((0:Int)<((a.l.length:Nat):Int)) then(ak.mk Sl.nil,a) else(ak.mk (bF P),(Sl.nil:Sl Z5))) /\
    pJ (ak.mk (bF P))=some b/\a.l=b.l/\fM P/\qc ((((d.aj.l.filter (oK e)).map (pT i e))).map bq) (P.map bq)/\∀x∈P,xG i e x/\∃t∈d.aj.l,vC x t:=by
  have f:fM ((d.aj.l.filter (oK e)).map (pT i e)):=h.pT List.filter_sublist;obtain⟨P,j,m,g⟩:=UU _ _ F0 (Nat.le_refl _) (by have:=f.dN; rw [fR]; omega) f;obtain⟨a,b,s1,p,q⟩:=zM g.qf g.qf rfl;refine⟨P,a,b, ?_,p,q,g,m,fun x hx=>(Mr (Q:=fun x=>xG i e x/\∃t∈d.aj.l,vC x t) (fun u t k hq=>⟨k.Va hq.1,hq.2.imp fun z hz=>⟨hz.1,k.Vb hz.2⟩⟩) _ _ P j (fun t ht=>⟨f.each t ht, ?_⟩) x hx).2⟩
  · unfold zg Aa
    rw [h.jS,cond_true,LN _ fun x hx=>⟨(h.each x hx).sz,(h.each x hx).wf⟩,oB,j,oB,Ve];rw [show ak.mk ⟨P.isEmpty,P⟩=ak.mk (bF P) from rfl,s1,oB];cases decide ((0:Int)<((a.l.length:Nat):Int))<;>rfl
  · obtain⟨u,hu,rfl⟩:=List.mem_map.1 ht
    exact⟨Vc (List.mem_filter.1 hu).2,u,(List.mem_filter.1 hu).1,Vd i e u⟩
def Tw (o o':Option Bs) (n:Nat):Prop:=∃s,o=some s/\o'=some s/\s.length<=n
theorem Tw.o1 {s:Bs}{n:Nat}(h:s.length<=n):Tw (some s) (some s) n:=⟨s,rfl,rfl,h⟩
theorem Tw.wk {o o':Option Bs}{n m:Nat}(h:Tw o o' n) (hm:n<=m):Tw o o' m:=by obtain⟨s,a,b,c⟩:=h; exact⟨s,a,b,by omega⟩
theorem Tw.bind {o o':Option Bs}{n m:Nat}{k k':Bs->Option Bs}(h:Tw o o' n) (b:∀s,s.length<=n->Tw (k s) (k' s) m):Tw (o.bind k) (o'.bind k') m:=by obtain⟨s,rfl,rfl,c⟩:=h; exact b s c
theorem Tw.jc {a b:Bs}{p q m:Nat}{k k':Bs->Option Bs}(g:a.length<=p) (j:b.length<=q) (h:p+q<=4294967296) (f:∀s,s.length<=p+q->Tw (k s) (k' s) m):Tw ((a_ a b).bind k) ((a_ a b).bind k') m:=by
 rw [cI (by omega)]; exact f _ (by simp; omega)
def totB (l:List Bs):Nat:=(l.map fun x=>x.length+4).sum
def Ts (o o':Option (Sl Bs)) (n:Nat):Prop:=∃s,o=some s/\o'=some s/\totB s.l<=n
theorem Ts.bind {o o':Option (Sl Bs)}{n m:Nat}{k k':Sl Bs->Option Bs}(h:Ts o o' n) (b:∀s,totB s.l<=n->Tw (k s) (k' s) m):Tw (o.bind k) (o'.bind k') m:=by obtain⟨s,rfl,rfl,c⟩:=h; exact b s c
theorem totB_len:∀l:List Bs,l.length<=totB l
 | []=>Nat.le_refl _
 | a::l=>by have:=totB_len l; unfold totB at this ⊢; rw [List.map_cons,List.sum_cons,List.length_cons]; omega
theorem Ac {s:Sl Bs}{x:Bs}(h:totB s.l<=4294967296):∃nl,bh 16 s (⟨false,[x]⟩:Sl Bs)=some ⟨nl,s.l++[x]⟩/\totB (s.l++[x])=totB s.l+(x.length+4) :=
 ⟨_,jk (by omega) (by have:=totB_len s.l; simp only [List.length_cons,List.length_nil]; omega),by unfold totB; simp⟩
theorem FQ {e:Bs}(he:e.length<=4):∀(l:List Bs) (i:Nat) (o:Bs),o.length+totB l<=4294967296->∃r,rI e l i o=some r/\r.length<=o.length+totB l
 | [],_,o,_=>⟨o,rfl,Nat.le_add_right _ _⟩
 | a::l,i,o,h=>by
  have ht:totB (a::l)=a.length+4+totB l:=by unfold totB; rw [List.map_cons,List.sum_cons]
  rw [ht] at h ⊢;rw [rI];cases decide ((0:Int)<((i:Nat):Int))
  ·rw [cond_false,oB];simp only [on];rw [cI (by omega),oB];obtain⟨r,h1,b⟩:=FQ he l (i+1) (o++a) (by simp; omega);exact⟨r,h1,by rw [List.length_append] at b; omega⟩
  ·rw [cond_true,cI (by omega)];simp only [oB,on];rw [cI (by simp; omega)];obtain⟨r,h1,b⟩:=FQ he l (i+1) (o++e++a) (by simp; omega);exact⟨r,h1,by simp only [List.length_append] at b; omega⟩
theorem Tw.join {s:Sl Bs}{e:Bs}{n:Nat}(he:e.length<=4) (h:totB s.l<=n) (hn:n<=4294967296):Tw (i_ s e) (i_ s e) n:=by
 obtain⟨r,h1,b⟩:=FQ he s.l 0 [] (by simp; omega);unfold i_;rw [h1];exact⟨r,rfl,rfl,by simp at b; omega⟩
theorem Vf {p:UInt8->Prop}(h:∀i:Fin 256,p (UInt8.ofNat i.val)) (c:UInt8):p c:=by
 have:=h ⟨c.toNat,c.toNat_lt⟩
 simpa using this
theorem Vg (c:UInt8):∃s,xH ((c.toNat:Nat):Int)=some s/\s.length<=6:=by
 have h:(match xH ((c.toNat:Nat):Int) with|some s=>decide (s.length<=6)|none=>false)=true:=by
  revert c; apply Vf; decide +kernel
 cases e:xH ((c.toNat:Nat):Int) with
 | none=>rw [e] at h; cases h
 | some s=>rw [e] at h; exact⟨s,rfl,oD h⟩
theorem Mt:∀(s o:Bs),o.length+6*s.length<=4294967296->∃r,uk s o=some r/\r.length<=o.length+6*s.length
 | [],o,_=>⟨o,rfl,Nat.le_add_right _ _⟩
 | a::s,o,h=>by
  rw [List.length_cons] at h ⊢;obtain⟨x,b,g⟩:=Vg a;rw [uk];simp only [on];rw [b,oB,cI (by omega)];obtain⟨r,h1,f⟩:=Mt s (o++x) (by simp; omega);exact⟨r,h1,by rw [List.length_append] at f; omega⟩
theorem Tw.quote {s:Bs}(h:s.length<=1048576):Tw (wJ s) (wJ s) (6*s.length+2):=by
 obtain⟨r,h1,b⟩:=Mt s [34] (by simp; omega);unfold wJ;rw [h1];exact Tw.jc (p:=6*s.length+1) (by simp at b; omega) (q:=1) (Nat.le_refl _) (by omega) fun t ht=>.o1 (by omega)
def CC (rec:Z9->Option Bs) (x:Z9):Prop:=∀y,cn y=cn x->Tw (rec x) (rec y) (32*x.sz-4)
theorem CD (v:Z9):5<=v.sz:=by
 have:=v.bt;have h1:Bs.sz v.bp=v.bp.length+1:=rfl;have b:Sl.sz Z9.sz v.aB=1+(v.aB.l.map Z9.sz).sum:=rfl;have f:Sl.sz Bs.sz v.aR=1+(v.aR.l.map Bs.sz).sum:=rfl;omega
theorem Mu {rec:Z9->Option Bs}:∀(l r:List Z9) (s:Sl Bs),r.map cn=l.map cn->(∀x∈l,CC rec x)->totB s.l+32*(l.map Z9.sz).sum<=4294967296->Ts (pG rec l s) (pG rec r s) (totB s.l+32*(l.map Z9.sz).sum)
 | [],r,s,hr,_,_=>by rw [List.map_eq_nil_iff.1 hr]; exact⟨s,rfl,rfl,Nat.le_add_right _ _⟩
 | x::l,r,s,hr,hx,h=>by
  obtain⟨y,m,rfl,b,hm⟩:=qd hr;rw [List.map_cons,List.sum_cons] at h ⊢;obtain⟨t,f,g,j⟩:=hx x (.head _) y b;have k:=CD x;obtain⟨nl,f1,f2⟩:=Ac (s:=s) (x:=t) (by omega);rw [pG,pG];simp only [on];rw [f,g,oB,oB,f1];obtain⟨z,g1,g2,g3⟩:=Mu l m ⟨nl,s.l++[t]⟩ hm (fun y b=>hx y (.tail _ b)) (by rw [f2]; omega);exact⟨z,g1,g2,by rw [f2] at g3; omega⟩
theorem Mv {rec:Z9->Option Bs}{v w:Z9}(hk:w.aR=v.aR):∀(l r:List Z9) (i:Nat) (s:Sl Bs),r.map cn=l.map cn->(∀x∈l,CC rec x)->totB s.l+32*(l.map Z9.sz).sum+4*((v.aR.l.drop i).map Bs.sz).sum<=4294967296 ->
  Ts (nU v rec l i s) (nU w rec r i s) (totB s.l+32*(l.map Z9.sz).sum+4*((v.aR.l.drop i).map Bs.sz).sum)
 | [],r,i,s,hr,_,_=>by rw [List.map_eq_nil_iff.1 hr]; exact⟨s,rfl,rfl,by omega⟩
 | x::l,r,i,s,hr,hx,h=>by
  obtain⟨y,m,rfl,b,hm⟩:=qd hr;rw [List.map_cons,List.sum_cons] at h ⊢;obtain⟨t,f,g,k⟩:=hx x (.head _) y b;have p:=CD x;rw [nU,nU,hk];by_cases hi:i<v.aR.l.length
  ·have j:=List.drop_eq_getElem_cons hi;rw [j,List.map_cons,List.sum_cons,show Bs.sz v.aR.l[i]=v.aR.l[i].length+1 from rfl] at h ⊢;rw [dT (by omega:((i:Nat):Int)<((v.aR.l.length:Nat):Int)),cond_true,cond_true,List.getElem?_eq_getElem hi];simp only [oB,on];rw [cI (by simp; omega),oB,f,g];simp only [oB];rw [cI (by simp; omega),oB,oB]
   obtain⟨nl,f1,f2⟩:=Ac (s:=s) (x:=v.aR.l[i]++[58,32]++t) (by omega);rw [f1];simp only [List.length_append,List.length_cons,List.length_nil] at f2;obtain⟨z,g1,g2,g3⟩:=Mv hk l m (i+1) ⟨nl,s.l++[v.aR.l[i]++[58,32]++t]⟩ hm (fun y b=>hx y (.tail _ b)) (by rw [f2]; omega);exact⟨z,g1,g2,by rw [f2] at g3; omega⟩
  ·rw [dF (by omega:¬((i:Nat):Int)<((v.aR.l.length:Nat):Int)),cond_false,cond_false];exact⟨s,rfl,rfl,by omega⟩
theorem FR:∀(n:Nat) (v:Z9),v.sz<n->v.sz<=1048576->v.wf->CC (j_ n) v
 | 0,_,h,_,_=>by omega
 | n+1,v,hn,H,hw=>fun w he=>by
  have I:=v.bt;have ht:Bs.sz v.bp=v.bp.length+1:=rfl;have hk:Sl.sz Bs.sz v.aR=1+(v.aR.l.map Bs.sz).sum:=rfl;have hi:Sl.sz Z9.sz v.aB=1+(v.aB.l.map Z9.sz).sum:=rfl;have g:=(Z9.sF v).1 hw;obtain⟨u,y,z,n4,B⟩:=FK he;have r:∀x∈v.aB.l,CC (j_ n) x:=fun x hx=>FR n x (by have:=Z9.kQ hx; omega) (by have:=Z9.kQ hx; omega) (g.2.2.2.1.2.2 x hx)
  have f:∀{b:Bool}{a c t c':Option Bs}{m:Nat},Tw a t m->Tw c c' m->Tw (bif b then a else c) (bif b then t else c') m:=fun {b} _ _ _ _ _ h1 j=>by cases b; exact j; exact h1
  have lit:∀s:Bs,s.length<=5->Tw (some s) (some s) (32*v.sz-4):=fun s h=>.o1 (by omega);rw [j_,j_,u,y,z];refine f (f (lit _ (by decide)) (lit _ (by decide))) (f ?_ (f ?_ (f (.o1 (by omega)) (f ?_ (f ?_ (f ?_ (lit _ (by decide))))))))
  ·refine Tw.bind (n:=22) ⟨_,EZ g.2.1.1 g.2.1.2,EZ g.2.1.1 g.2.1.2,Kz g.2.1.1 g.2.1.2⟩ fun s h=>.o1 (by omega)
  ·exact Tw.bind (Tw.quote (by omega)) fun s h=>.o1 (by omega)
  ·exact Tw.jc (p:=1) (q:=v.bp.length) (Nat.le_refl _) (Nat.le_refl _) (by omega) fun s h=>.o1 (by omega)
  ·refine Ts.bind (Mu v.aB.l w.aB.l (Sl.nil:Sl Bs) n4 r (by show 0+_<=_; omega)) fun s h=>?_;have h:totB s.l<=32*(v.aB.l.map Z9.sz).sum:=by simpa [totB,Sl.nil] using h
   refine Tw.bind (Tw.join (by decide) h (by omega)) fun C j=>Tw.jc (p:=1) (Nat.le_refl _) j (by omega) fun E k=>Tw.jc k (q:=1) (Nat.le_refl _) (by omega) fun F G=>.o1 (by omega)
  ·refine Ts.bind (Mv B v.aB.l w.aB.l 0 (Sl.nil:Sl Bs) n4 r (by show 0+_+_<=_; rw [List.drop_zero]; omega)) fun s h=>?_;have h:totB s.l<=32*(v.aB.l.map Z9.sz).sum+4*(v.aR.l.map Bs.sz).sum:=by simpa [totB,Sl.nil] using h
   refine Tw.bind (Tw.join (by decide) h (by omega)) fun C j=>Tw.jc (p:=1) (Nat.le_refl _) j (by omega) fun E k=>Tw.jc k (q:=1) (Nat.le_refl _) (by omega) fun F G=>.o1 (by omega)
theorem Mw {a b:aA}:∀(l r:List bT) (s:Sl Bs),r.map iO=l.map iO->(∀x∈l,x.sz<=1048576/\x.wf)->totB s.l+32*(l.map bT.sz).sum<=4294967296->Ts (qJ a l s) (qJ b r s) (totB s.l+32*(l.map bT.sz).sum)
 | [],r,s,hr,_,_=>by rw [List.map_eq_nil_iff.1 hr]; exact⟨s,rfl,rfl,Nat.le_add_right _ _⟩
 | x::l,r,s,hr,hx,h=>by
  obtain⟨y,m,rfl,f,hm⟩:=qd hr;rw [List.map_cons,List.sum_cons] at h ⊢;obtain⟨q,hw⟩:=hx x (.head _);have h0:=x.bt;have h1:Bs.sz x.aa=x.aa.length+1:=rfl;obtain⟨g,j⟩:=Mb f;obtain⟨t,k,p,u⟩:=FR F0 x.gr (by rw [fR]; omega) (by omega) (bT.D9 hw) y.gr j;have v:=CD x.gr;rw [qJ,qJ];simp only [on,g];unfold Bp;rw [cI (by simp; omega),oB,oB,k,p]
  simp only [oB];rw [cI (by simp; omega),oB,oB];obtain⟨nl,f1,f2⟩:=Ac (s:=s) (x:=x.aa++[58,32]++t) (by omega);rw [f1];simp only [List.length_append,List.length_cons,List.length_nil] at f2;obtain⟨z,g1,g2,g3⟩:=Mw l m ⟨nl,s.l++[x.aa++[58,32]++t]⟩ hm (fun y f=>hx y (.tail _ f)) (by rw [f2]; omega);exact⟨z,g1,g2,by rw [f2] at g3; omega⟩
theorem Mx:∀(l r:List aA) (s:Sl Bs),r.map dx=l.map dx->(∀x∈l,x.sz<=1048576/\x.wf)->totB s.l+32*(l.map aA.sz).sum<=4294967296->Ts (qK l s) (qK r s) (totB s.l+32*(l.map aA.sz).sum)
 | [],r,s,hr,_,_=>by rw [List.map_eq_nil_iff.1 hr]; exact⟨s,rfl,rfl,Nat.le_add_right _ _⟩
 | x::l,r,s,hr,hx,h=>by
  obtain⟨y,m,rfl,g,hm⟩:=qd hr;rw [List.map_cons,List.sum_cons] at h ⊢;obtain⟨L,hw⟩:=hx x (.head _);have h0:=x.bt;have h1:Bs.sz x.aa=x.aa.length+1:=rfl;have M:Sl.sz bT.sz x.ay=1+(x.ay.l.map bT.sz).sum:=rfl;obtain⟨B,C⟩:=Mc g;obtain⟨t,E,F,p⟩:=Mw (a:=x) (b:=y) x.ay.l y.ay.l (Sl.nil:Sl Bs) C (fun a q=>⟨by have:=Sl.de (f:=bT.sz) q; omega,(aA.kO hw).2.2 a q⟩) (by show 0+_<=_; omega)
  have p:totB t.l<=32*(x.ay.l.map bT.sz).sum:=by simpa [totB,Sl.nil] using p
  have key:∃u:Bs,u.length+4<=32*x.sz/\∀k:Bs->Option (Sl Bs),((a_ ([64]:Bs) x.aa).bind fun v=>Option.bind (bif (decide ((0:Int)<((t.l.length:Nat):Int))) then((a_ v ([40]:Bs)).bind fun G=>(i_ t ([44,32]:Bs)).bind fun H=>(a_ G H).bind fun I=>(a_ I ([41]:Bs)).bind fun J=>some J) else(some v)) k)=k u:=by
   rw [cI (by simp; omega)];simp only [oB];cases decide ((0:Int)<((t.l.length:Nat):Int))
   ·exact⟨_,by simp; omega,fun k=>rfl⟩
   ·obtain⟨j,K,_,N⟩:=Tw.join (s:=t) (e:=[44,32]) (by decide) p (by omega);rw [cond_true,cI (by simp; omega),oB,K,oB,cI (by simp; omega),oB,cI (by simp; omega)];exact⟨_,by simp; omega,fun k=>rfl⟩
  obtain⟨u,O,w⟩:=key;rw [qK,qK,E,F];simp only [oB,on,B];rw [w,w];obtain⟨nl,f1,f2⟩:=Ac (s:=s) (x:=u) (by omega);rw [f1];obtain⟨z,g1,g2,g3⟩:=Mx l m ⟨nl,s.l++[u]⟩ hm (fun y g=>hx y (.tail _ g)) (by rw [f2]; omega);exact⟨z,g1,g2,by rw [f2] at g3; omega⟩
theorem Vh {s r:Sl aA}(hr:r.l.map dx=s.l.map dx) (b:Sl.sz aA.sz s<=1048576) (hw:Sl.wf aA.wf s):Tw (qL s) (qL r) (32*Sl.sz aA.sz s):=by
 have h0:Sl.sz aA.sz s=1+(s.l.map aA.sz).sum:=rfl;unfold qL;rw [vz hr];cases decide (((s.l.length:Nat):Int)=(0:Int))
 ·refine Tw.bind (n:=32*(s.l.map aA.sz).sum) ?_ fun t h=>Tw.jc (p:=1) (Nat.le_refl _) h (by omega) fun t h=>.o1 (by omega);unfold Bt;refine Ts.bind (Mx s.l r.l (Sl.nil:Sl Bs) hr (fun x hx=>⟨by have:=Sl.de (f:=aA.sz) hx; omega,hw.2.2 x hx⟩) (by show 0+_<=_; omega)) fun t h=>?_;have h:totB t.l<=32*(s.l.map aA.sz).sum:=by simpa [totB,Sl.nil] using h
  exact Tw.bind (Tw.join (by decide) h (by omega)) fun t h=>.o1 h
 ·exact .o1 (Nat.zero_le _)
theorem My (N:Bs) (f:N.length<=1048576):∀(n:Nat) (W:List Int) (nl:Bool),W.length<n->W.length<=1048576->Tw (nV n ⟨N,⟨nl,W⟩⟩) (nV n ⟨N,⟨nl,W⟩⟩) (N.length+2*W.length)
 | 0,_,_,h,_=>by omega
 | n+1,[],nl,_,_=>by rw [nV]; exact⟨N,rfl,rfl,Nat.le_add_right _ _⟩
 | n+1,w::r,nl,h,g=>by
  simp only [List.length_cons] at h g ⊢;have b:=My N f n r false (by omega) (by omega);have j:pH ⟨N,⟨nl,w::r⟩⟩=some ⟨N,⟨false,r⟩⟩:=by
   unfold pH;rw [Bc (by simp),oB,jk (by omega) (by simp; omega)]; rfl
  rw [nV,j];simp only [on,oB];cases iz ⟨N,⟨nl,w::r⟩⟩
  ·rw [cond_false,show decide ((0:Int)<(((w::r:List Int).length:Nat):Int))=true from dT (by simp only [List.length_cons]; omega),cond_true];exact Tw.bind b fun s h=>Tw.jc (p:=1) (Nat.le_refl _) h (by omega) fun s h=>Tw.jc h (q:=1) (Nat.le_refl _) (by omega) fun s h=>.o1 (by omega)
  ·rw [cond_true];exact Tw.bind b fun s h=>Tw.jc h (q:=1) (Nat.le_refl _) (by omega) fun s h=>.o1 (by omega)
theorem Vi {x y:Z7}(he:b8 y=b8 x) (k:x.sz<=1048576) (hw:x.wf):Tw (pI x) (pI y) 100000000:=by
 have h0:=x.bt;have h1:Bs.sz x.aa=x.aa.length+1:=rfl;have m:=x.av.bt;have r:Bs.sz x.av.aa=x.av.aa.length+1:=rfl;have u:=x.av.s_;have v:=CD x.cR;obtain⟨b,f,g,n4,j⟩:=FN he;unfold pI;rw [b,f,g];refine Tw.jc (p:=1048576) (q:=2) (by omega) (Nat.le_refl _) (by omega) fun s h=>?_;refine Tw.bind (n:=4194304) (Tw.wk (My x.av.aa (by omega) F0 x.av.aH.l x.av.aH.nl (by rw [fR]; omega) (by omega)) (by omega)) fun s h=>?_
 refine Tw.jc (by assumption) h (by omega) fun s h=>?_;refine Tw.bind (n:=50000000) ?_ fun s h=>?_
 ·cases x.ck
  ·exact .o1 (by omega)
  ·refine Tw.jc h (q:=3) (Nat.le_refl _) (by omega) fun s h=>?_;unfold Bp;exact Tw.bind (FR F0 x.cR (by rw [fR]; omega) (by omega) (Z7.Ea hw) y.cR n4) fun t ht=>Tw.jc h ht (by omega) fun s h=>.o1 (by omega)
 ·exact Tw.bind (Vh j (by omega) (Z7.jo hw)) fun t ht=>Tw.jc h ht (by omega) fun s h=>.o1 (by omega)
def lD (x:Z7):ah:=ah.mk 5 [73] Sl.nil Sl.nil Sl.nil Sl.nil (⟨false,[x]⟩:Sl Z7)
theorem Vj {x y:Z7}(h:Tw (pI x) (pI y) 100000000):Tw (uV (ak.mk ⟨false,[lD x]⟩)) (uV (ak.mk ⟨false,[lD y]⟩)) 300000000:=by
 have hl:∀z,zc (lD z)=Option.bind (Option.bind ((pI z).bind fun u=>(a_ ([32,32]:Bs) u).bind fun u=>(a_ u ([10]:Bs)).bind fun u=>some u) fun s=>some s) fun s=>some s:=fun z=>rfl;have b:∀z,uU (lD z)=(zc (lD z)).bind fun u=>(a_ ([105,110,112,117,116,32,73,32,123,10]:Bs) u).bind fun u=>(a_ u ([125,10]:Bs)).bind fun u=>some u:=fun z=>rfl;have g:Tw (uU (lD x)) (uU (lD y)) 200000000:=by
  rw [b,b,hl,hl];refine Tw.bind (Tw.bind (Tw.bind (Tw.bind h fun s h=>Tw.jc (p:=2) (Nat.le_refl _) h (by omega) fun s h=>Tw.jc h (q:=1) (Nat.le_refl _) (by omega) fun s h=>.o1 h) fun s h=>.o1 h) fun s h=>.o1 h) fun s h=>?_;exact Tw.jc (p:=10) (Nat.le_refl _) h (by omega) fun s h=>Tw.jc h (q:=2) (Nat.le_refl _) (by omega) fun s h=>.o1 (by omega)
 obtain⟨s,j,k,m⟩:=g;obtain⟨nl,f1,f2⟩:=Ac (s:=(Sl.nil:Sl Bs)) (x:=s) (by decide);have f:∀z,uU (lD z)=some s->sN [lD z] (Sl.nil:Sl Bs)=some ⟨nl,[s]⟩:=fun z e=>by
  rw [sN]; simp only [on]; rw [e,oB,f1]; rfl
 unfold uV;rw [show (ak.mk ⟨false,[lD x]⟩).aj.l=[lD x] from rfl,show (ak.mk ⟨false,[lD y]⟩).aj.l=[lD y] from rfl,f x j,f y k];exact Tw.bind (Tw.join (s:=⟨nl,[s]⟩) (n:=300000000) (by decide) (by simp [totB]; omega) (by omega)) fun s h=>.o1 h
theorem Mz {d:ak}{a b:Bs}:∀(l:List Z7) (s:List Bs),gY d a b s l=[]->∀x∈l,x.aa∉s/\jM x.aa l=Sum.inr (x,true)
 | [],_,_,_,h=>by cases h
 | c::r,s,h,x,hx=>by
  rw [gY] at h;simp only [List.append_eq_nil_iff,Fm] at h;obtain⟨⟨_,g⟩,_,j⟩:=h;rw [jM];simp only [on];rcases List.mem_cons.1 hx with rfl|hx
  ·exact⟨by simpa using g,by rw [beq_iff_eq.2 rfl]; rfl⟩
  ·obtain⟨k,m⟩:=Mz r _ j x hx;have f:x.aa∉s/\x.aa≠c.aa:=by simpa using k
   exact⟨f.1,by rw [beq_eq_false_iff_ne.2 fun e=>f.2 e.symm]; exact m⟩
theorem FT {d:ak}{b:Bs}:∀(l:List Z6) (s:List Bs),kU d b s l=[]->∀x∈l,x.aa∉s/\kP x.aa l=Sum.inr (x,true)/\gY d (b++[46]++x.aa++[40]) [41] [] x.ay.l=[]
 | [],_,_,_,h=>by cases h
 | c::r,s,h,x,hx=>by
  rw [kU] at h;simp only [List.append_eq_nil_iff,Fm] at h;obtain⟨⟨_,g⟩,_,j,k⟩:=h;rw [kP];simp only [on];rcases List.mem_cons.1 hx with rfl|hx
  ·exact⟨by simpa using g,by rw [beq_iff_eq.2 rfl]; rfl,by simpa only [List.append_assoc] using j⟩
  ·obtain⟨m,p,q⟩:=FT r _ k x hx;have f:x.aa∉s/\x.aa≠c.aa:=by simpa using m
   exact⟨f.1,by rw [beq_eq_false_iff_ne.2 fun e=>f.2 e.symm]; exact p,q⟩
theorem MA {d:ak}:∀(l:List ah) (s:List Bs),jb d s l=[]->∀t∈l,kW d t=[]
 | [],_,_,_,h=>by cases h
 | c::r,s,h,t,ht=>by
  rw [jb] at h;simp only [List.append_eq_nil_iff] at h;rcases List.mem_cons.1 ht with rfl|ht
  ·exact h.2.1
  ·exact MA r _ h.2.2 t ht
def xI (l:List Z7):Prop:=∀y∈l,jM y.aa l=Sum.inr (y,true)/\y.sz<=1048576/\y.wf
theorem MB {b:Sl Z7}(f:xI b.l):∀l:List Z7,z_ l b.l->sO b l=some (Sum.inl ())
 | [],_=>rfl
 | x::l,h=>by
  obtain⟨y,k,he⟩:=h x (.head _);obtain⟨h1,m,p⟩:=f y k;obtain⟨s,g,j,_⟩:=Vj (Vi (x:=y) (y:=x) he m p);have q:iZ b x.aa=(y,true):=by unfold iZ; rw [(FN he).1,h1]; rfl
  unfold lD at g j;rw [sO];simp only [on,q,Bool.not_true,Bool.not_false,aZ,if_true,cond_true,g,j,oB,beq_self_eq_true,Bool.or_self,cond_false];exact MB f l fun z hz=>h z (.tail _ hz)
theorem MC {a b:Sl Z7}(f:xI b.l) (h:z_ a.l b.l):wT a b=some true:=by
 unfold wT; rw [MB f a.l h]; rfl
theorem MD (x:Z8):∀(l:List Z8) (s:Bool),qM x l s=(s||l.any fun y=>x.aa==y.aa)
 | [],s=>by rw [qM]; simp
 | y::l,s=>by
  rw [qM];simp only [on];rw [MD x l,List.any_cons];cases s
  ·simp
  ·simp
theorem ME {t:ah}:∀l:List Z8,(∀y∈l,∃z∈t.ax.l,y.aa=z.aa)->nW t l=Sum.inl ()
 | [],_=>rfl
 | x::l,h=>by
  obtain⟨z,hz,e⟩:=h x (.head _);rw [nW];simp only [on];rw [MD,show (t.ax.l.any fun y=>x.aa==y.aa)=true from List.any_eq_true.2 ⟨z,hz,beq_iff_eq.2 e⟩];exact ME l fun y b=>h y (.tail _ b)
theorem MF (x:Bs):∀(l:List Bs) (s:Bool),qN x l s=(s||l.any fun y=>x==y)
 | [],s=>by rw [qN]; simp
 | y::l,s=>by
  rw [qN];simp only [on];rw [MF x l,List.any_cons];cases s
  ·simp
  ·simp
theorem MG {t:ah}:∀l:List Bs,(∀s∈l,s∈t.aM.l)->mH t l=Sum.inl ()
 | [],_=>rfl
 | x::l,h=>by
  rw [mH];simp only [on];rw [MF,show (t.aM.l.any fun y=>x==y)=true from List.any_eq_true.2 ⟨x,h x (.head _),beq_iff_eq.2 rfl⟩];exact MG l fun y b=>h y (.tail _ b)
def FU (t:ah):Prop:=∀z∈t.aq.l,kP z.aa t.aq.l=Sum.inr (z,true)/\xI z.ay.l
theorem MH {t:ah}(ht:FU t):∀l:List Z6,(∀y∈l,∃z∈t.aq.l,Mq y z)->sP t l=some (Sum.inl ())
 | [],_=>rfl
 | x::l,h=>by
  obtain⟨z,hz,b⟩:=h x (.head _);obtain⟨h1,f⟩:=ht z hz;have g:nQ t x.aa=(z,true):=by unfold nQ; rw [b.n,h1]; rfl
  rw [sP];simp only [on,g,Bool.not_true,Bool.not_false,aZ,if_true,cond_true,Bool.false_or,b.t,beq_self_eq_true,decide_true,MC f b.a,oB,Bool.or_self,cond_false];exact MH ht l fun y j=>h y (.tail _ j)
theorem Vk {x t:ah}(b:vC x t) (ht:FU t) (hi:xI t.aF.l):zd x t=some true:=by
 unfold zd;simp only [b.k,decide_true,Bool.not_true,Bool.not_false,aZ,if_true,MC hi b.i,oB,Bool.or_self,cond_false,MH ht _ b.f,on,ME _ b.m,MG _ b.p]
theorem Vl {d:ak}(hk:fM d.aj.l) (hc:gZ d true=[]){t:ah}(ht:t∈d.aj.l):FU t/\xI t.aF.l:=by
 have h1:=hk.each t ht;have v:=h1.sz;have w:=t.bt;have g:kW d t=[]:=by
  unfold gZ at hc;simp only [List.append_eq_nil_iff] at hc;exact MA d.aj.l [] hc.1 t ht
 have m:∀{s:Sl Z7}{a b:Bs},gY d a b [] s.l=[]->Sl.sz Z7.sz s<=1048576->Sl.wf Z7.wf s->xI s.l:=fun h B hw y j =>
  ⟨(Mz _ _ h y j).2,by have:=Sl.de (f:=Z7.sz) j; omega,hw.2.2 y j⟩
 unfold kW at g;constructor
 ·intro z hz;rcases h1.nv.f with k|k|k
  ·rw [k] at g;obtain⟨_,p,q⟩:=FT _ _ g z hz;have r:=Sl.de (f:=Z6.sz) hz;have u:=z.bt;exact⟨p,m q (by omega) (Z6.kO ((ah.qB h1.wf).2.2 z hz))⟩
  ·rw [k] at g;obtain⟨_,p,q⟩:=FT _ _ g z hz;have r:=Sl.de (f:=Z6.sz) hz;have u:=z.bt;exact⟨p,m q (by omega) (Z6.kO ((ah.qB h1.wf).2.2 z hz))⟩
  ·rw [k] at hz; cases hz
 ·rcases h1.nv.i with k|k
  ·rw [k] at g;exact m g (by omega) (ah.uR h1.wf)
  ·rw [k]; intro y j; cases j
theorem MI {d:ak}(hk:fM d.aj.l) (hc:gZ d true=[]):∀l:List ah,(∀x∈l,∃t∈d.aj.l,vC x t)->sQ d l=some (Sum.inl ())
 | [],_=>rfl
 | x::l,h=>by
  obtain⟨t,ht,b⟩:=h x (.head _);have f:eR d x.aa=(t,true):=by rw [ko,b.n]; exact Lh hc t ht
  obtain⟨g,j⟩:=Vl hk hc ht;rw [sQ];simp only [on,f,Bool.not_true,Bool.not_false,aZ,if_true,cond_true,Vk b g j,oB,Bool.or_self,cond_false];exact MI hk hc l fun y k=>h y (.tail _ k)
theorem Vm:uW=some true:=by kernel_rfl
theorem parts_eq {d:ak}{i e:Sl Bs}(hw:d.wf) (p:d.sz<=1048576):ze d i e=some true:=by
 obtain⟨b,q,h⟩:=U8 hw p;unfold ze;rw [q,oB,Vm];cases hc:((!b)||(decide ((20:Int)<((i.l.length:Nat):Int))))||(decide ((20:Int)<((e.l.length:Nat):Int)))
 case true=>rfl
 have r:b=true:=by cases b with|true=>rfl|false=>cases hc
 obtain⟨hk,s,x,hx,u⟩:=h r;obtain⟨P,a,y,f1,f2,f3,f4,f5,f6⟩:=Ms (i:=i) (e:=e) hk;rw [cond_false,f1,oB];cases hn:decide ((0:Int)<((a.l.length:Nat):Int))
 case true=>simp only [cond_true,hn]; rfl
 have k:a.l=[]:=List.length_eq_zero_iff.1 (by have:=of_decide_eq_false hn; omega);obtain⟨j,a2,v,g1,g2,g3,g4,g5,g6⟩:=Ms (d:=ak.mk (bF P)) (i:=i) (e:=e) f4;have w:(ak.mk (bF P)).aj.l.filter (oK e)=P:=List.filter_eq_self.2 fun t ht=>(f6 t ht).1.ex;rw [w,List.map_map,List.map_congr_left (f:=bq ∘ pT i e) (g:=bq) (l:=P) fun t ht=>again (f6 t ht).1] at g5;have m:j.map bq=P.map bq:=g5.UT (.stop f5.fix)
 have B:dy (ak.mk (bF j))=dy (ak.mk (bF P)):=by
  unfold dy; rw [p9,p9]; show ak.mk (bF (j.map bq))=ak.mk (bF (P.map bq)); rw [m]
 obtain⟨_,z,_,Q,_⟩:=zM f4.qf f4.qf rfl;obtain⟨a3,C,E,F,G⟩:=zM g4.qf f4.qf B;obtain⟨a4,H,I,J,K⟩:=zM g4.qf g4.qf rfl;have L:C=y:=oJ (F.symm.trans f2);have M:a4=a3:=oJ (I.symm.trans E);have N:H=v:=oJ (J.symm.trans g2);have O:a2.l=[]:=by rw [g3,<- N,<- K,M,G,L,<- f3,k]
 have z0:decide ((0:Int)<((([]:List Z5).length:Nat):Int))=false:=rfl;rw [cond_false,show decide ((0:Int)<(((Sl.nil:Sl Z5).l.length:Nat):Int))=false from rfl,cond_false,f2,oB,<- f3,k,z0,cond_false,MI hk (U9 s hx u) (ak.mk (bF P)).aj.l fun x hx=>(f6 x hx).2,oB];simp only [on];rw [g1,oB,O,z0,cond_false,U4 m fun x hx=>(f4.each x hx).sz]
 rfl
end Go.Proofs
namespace Go.Proofs.YtdlobimnfmjonaaGreatDoor
open Go Go.Ab Go.RowKit Go.ChangeShapes Go.WideShapes Go.ChangeAt
variable {au:bS}
theorem MJ {H:Type}(l:List (DataW H)):Rows.uptoBulkAll l=(l.map Rows.uptoBulk).sum:=by
 induction l with
 | nil=>rfl
 | cons x r b=>simp only [Rows.uptoBulkAll,List.map_cons,List.sum_cons,b]
theorem Ae {H:Type}:yT (H:=H) Rows.uptoBulk:=by
 refine⟨fun d=>?_,fun b=>by simp [Rows.uptoBulk],fun e s=>by simp only [Rows.uptoBulk,MJ]; omega,fun l=>by simp only [Rows.uptoBulk,MJ]; omega⟩;cases d with
 | lit l=>cases l<;>simp [Rows.uptoBulk]
 | nil=>simp [Rows.uptoBulk]
 | ptr d=>simp [Rows.uptoBulk]
 | slice f spare=>simp [Rows.uptoBulk]
 | agg parts=>simp [Rows.uptoBulk]
 | iface t d=>simp [Rows.uptoBulk]
 | map entries=>simp [Rows.uptoBulk]
 | held h=>simp [Rows.uptoBulk]
theorem own:ownKnob Tryz.prog.godebug=none:=by kernel_rfl
theorem laid:laidOutB Tryz.prog=true:=by kernel_rfl
theorem Vn {H:Type}{l:List (DataW H)}(hk:Rows.uptoSmall H l=true):Rows.uptoBulkAll l<=1048576:=oD hk
theorem table {W:World}(h:laidMet Tryz.prog Rows.contractPartsUptoRow.laid W):∃u fr,W.heap[0]?=some (.cells (Lib.pow10Tab.map fun z=>Value.int .u64 z).toArray u fr) :=
 Qm (P:=Tryz.prog) (name := "internal/strconv.uint64pow10") (g:=0) (t:=222) (e:=215) (n:=20) (by kernel_rfl) (by kernel_rfl) (by kernel_rfl) (by kernel_rfl) (by kernel_rfl) (by kernel_rfl) h
  (by rw [show (Lib.tabData .u64 Lib.pow10Tab:DataW Unit)=Rows.laid_internal_strconv_uint64pow10 from(by kernel_rfl)]; exact .tail _ (.tail _ (.head _)))
theorem Vo (u:TypeId) (fr:Nat×Nat):iw Tryz.prog (.fix 0 (.cells (Lib.pow10Tab.map fun z=>Value.int .u64 z).toArray u fr)):=.of (by kernel_rfl)
theorem Vp (a:ak) (b c:Sl Bs) (f:a.sz<=1048576) (g:a.wf) (u:TypeId) (fr:Nat×Nat):At 4 [.agg a.c,.d (Sl.d 1 aG none b),.d (Sl.d 1 aG none c)] (fc 0 (.cells (Lib.pow10Tab.map fun z=>Value.int .u64 z).toArray u fr)) fun r h'=>r=.a (.d (.bool true))/\h'=fc 0 (.cells (Lib.pow10Tab.map fun z=>Value.int .u64 z).toArray u fr) :=
 Rg (by rw [Rf]; exact parts_eq g f) _ (gT:=0) rfl (Vo u fr)
end Go.Proofs.YtdlobimnfmjonaaGreatDoor
