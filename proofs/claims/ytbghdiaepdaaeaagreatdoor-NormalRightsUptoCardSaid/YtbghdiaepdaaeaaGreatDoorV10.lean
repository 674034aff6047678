import Derived.Test.YtbghdiaepdaaeaaGreatDoorV9
import Derived.Test.YtbghdiaepdaaeaaGreatDoorRows
set_option maxRecDepth 100000
set_option maxHeartbeats 2000000
set_option linter.unusedVariables false
set_option linter.unusedSimpArgs false
namespace Go.Proofs
open Go Go.Ab
theorem AJ {p x:aj}(h:x∈p.bE.l):x.sz<p.sz:=by
 have h1:=p.bM; have b:=Sl.dV (f:=aj.sz) h; omega
theorem Hl (s:Bs):∀(l:List Bs) (i:Nat),oK s l i=iR s l i
 | [],_=>rfl
 | x::r,i=>by
  rw [oK,iR,Hl s r (i+1)];simp only [Ab.on];rw [show (x==s)=(s==x) from BEq.comm]
theorem Px {a b:Sl Bs}(h:a.l=b.l) (s:Bs):su b s=g_ a s:=by
 unfold su g_;rw [Hl,h]; rfl
theorem Ho (f:aj->Bool):∀(l:List aj) (i:Nat),oL f l i=Sum.inl ()/\l.any f=false\/(∃j:Nat,oL f l i=Sum.inr (j:Int))/\l.any f=true
 | [],_=>.inl ⟨rfl,rfl⟩
 | x::r,i=>by
  rw [oL,List.any_cons];simp only [Ab.on];cases b:f x
  ·rw [cond_false,Bool.false_or]; exact Ho f r (i+1)
  ·exact .inr ⟨⟨i,rfl⟩,rfl⟩
theorem Py (s:Sl aj) (f:aj->Bool):uK s f=s.l.any f:=by
 unfold uK xh;rcases Ho f s.l 0 with ⟨e,h⟩|⟨⟨j,e⟩,h⟩<;>rw [e,h]
 ·rfl
 ·simp [Ab.on]
theorem Hp (a:Sl aj) (h:aj):∀(m j:Nat),j+m<=a.l.length->nt a h m j=some (if ((a.l.drop j).take m).any (fun y=>qB y h) then Sum.inr false else Sum.inl ())
 | 0,j,_=>by rw [nt]; simp
 | m+1,j,f=>by
  have hi:j<a.l.length:=by omega
  rw [nt,List.getElem?_eq_getElem hi,List.drop_eq_getElem_cons hi,List.take_succ_cons,List.any_cons];have b:=Hp a h m (j+1) (by omega);unfold qB;simp only [Ab.on,oB,aN];cases h1:(a.l[j]).bR==h.bR
  ·simp only [Bool.false_eq_true,if_false,Bool.false_and,cond_false,Bool.false_or];exact b
  ·simp only [if_true,oB,Bool.true_and,cond_true];cases g:(a.l[j]).bF==h.bF
   ·simp only [cond_false,Bool.false_or];exact b
   ·rfl
def jX (xs:List Int):Bool:=xs.any fun k=>decide (24<k)
structure qC (d:aq):Prop where
 r:iA d=some true
 s:d.sz<=1048576
 w:d.wf
 n:(d.aA.l.map ax.ai).Nodup
 f:∀t∈d.aA.l,∀f∈t.bC.l,gR Z8.ai f.aO.l
theorem qC.len {d:aq}(h:qC d):d.aA.l.length<=1048576:=by
 have h1:=d.bM; have b:=Sl.dN (f:=ax.sz) d.aA ax.pos; have g:=h.s; omega
def AK (b:Bool):Unit ⊕ Bool:=if b then Sum.inl () else Sum.inr false
set_option maxHeartbeats 1000000 in
theorem Hq {d:aq}(m:qC d){a1:Sl aj}{level:Int}(C:0<=level/\level<=4611686018427387904){o y3:Sl Bs}(u:o.l=y3.l){k1:aq->Sl aj->Bs->Option Bool}{k2:aq->Bs->Sl aj->Int->Option Bool}
  (v:∀p∈a1.l,p.wf/\p.sz<=1048576/\∀k j,gj k (level+1) p.bE.l=some j->∃b,k1 d p.bE p.aJ.ai=some b/\(level<=24->k2 d p.aJ.ai p.bE (level+1)=some (b&&!jX j))) :
  ∀(r:List aj) (i:Nat) (last:Int) (k:Nat) (xs:List Int),a1.l.drop i=r->gj k level r=some xs ->
   ∃b,oM d a1 o k1 r i last=some (AK b)/\nv d a1 level y3 k2 r i last=some (AK (b&&!jX xs))
 | [],i,last,k,xs,_,g=>by
  cases k with
  | zero=>cases g
  | succ k=>cases g; exact⟨true,rfl,rfl⟩
 | p::r,i,last,0,xs,_,g=>by cases g
 | p::r,i,last,k+1,xs,q,g=>by
  have aY:i<a1.l.length:=by
   rcases Nat.lt_or_ge i a1.l.length with h|h
   ·exact h
   ·rw [List.drop_of_length_le h] at q; cases q
  rw [List.drop_eq_getElem_cons aY] at q
  injection q with E F
  have G:p∈a1.l:=E▸List.getElem_mem aY;have x:bG level 1=some (level+1):=eH (by omega);rw [gj,x,oB] at g;obtain⟨j,H,g⟩:=gA g;obtain⟨t,I,g⟩:=gA g;cases g;obtain⟨J,ps,hk⟩:=v p G;obtain⟨B,K,L⟩:=hk k j H;obtain⟨A,a2,a3⟩:=Pz m.r m.s m.w m.f J ps;obtain⟨T,t1,t2⟩:=Hq m C u v r (i+1) (g_ o p.bR) k t F I;rw [oM,nv]
  simp only [Ab.on,Px u,a2,K,gS,Py,Hp a1 p i 0 (by omega),List.drop_zero];have M:jX (level::(j++t))=(decide (24<level)||(jX j||jX t)):=by unfold jX; rw [List.any_cons,List.any_append]
  rw [M];generalize (a1.l.take i).any (fun y=>qB y p)=D;generalize g_ o p.bR=ix at t1 t2 ⊢;generalize decide (ix<last)=c1;by_cases z:(24:Int)<level
  ·refine⟨!c1&&A&&B&&!D&&T, ?_, ?_⟩
   ·cases c1<;>cases A<;>cases B<;>cases D<;>first|exact t1|rfl
   ·simp only [dT z,Bool.true_or,Bool.not_true,Bool.and_false,aN,Bool.false_eq_true,if_false,cond_true];rfl
  ·have N:=L (by omega);refine⟨!c1&&A&&B&&!D&&T, ?_, ?_⟩
   ·cases c1<;>cases A<;>cases B<;>cases D<;>first|exact t1|rfl
   ·simp only [dF z,Bool.false_or];cases c1
    ·simp only [Bool.not_false,cond_true,a3,Bool.false_or,gS,Bool.true_and];cases A
     ·rfl
     ·simp only [Bool.not_true,Bool.not_false,cond_true,aN,if_true,x,oB,N];cases B
      ·rfl
      ·simp only [Bool.true_and];cases O:jX j
       ·cases D
        ·simpa using t2
        ·rfl
       ·cases D<;>simp [AK]
    ·rfl
theorem Hr {d:aq}(i:qC d):∀(n:Nat) (l:Sl aj) (on:Bs) (level:Int) (k:Nat) (xs:List Int),(∀x∈l.l,x.sz<n/\x.wf/\x.sz<=1048576)->gj k level l.l=some xs->0<=level->level+n<=1073741824->∀m m',n<m->n<m' ->
  ∃b,lc m d l on=some b/\jY m' d on l level=some (b&&!jX xs)
 | n,l,on,level,k,xs,hl,g,h0,h1,m,m',hm,t=>by
  obtain⟨m1,rfl⟩:∃m1,m=m1+1:=⟨m-1,by omega⟩;obtain⟨m2,rfl⟩:∃m2,m'=m2+1:=⟨m'-1,by omega⟩;obtain⟨x,y,j,o,q⟩:=PB i.len i.n on;rw [lc,jY,j,o,oB,oB];obtain⟨b,f1,f2⟩:=Hq (a1:=l) i (level:=level) (by omega) q (k1:=lc m1) (k2:=jY m2) (fun p f=>⟨(hl p f).2.1,(hl p f).2.2,fun k r s=>by
   cases n with
   | zero=>have:=(hl p f).1; omega
   | succ n =>
    obtain⟨b,g1,g2⟩:=Hr i n p.bE p.aJ.ai (level+1) k r (fun x g=>⟨by have:=AJ g; have:=(hl p f).1; omega,(aj.O9 (hl p f).2.1).2.2 x g,by have:=AJ g; have:=(hl p f).2.2; omega⟩) s (by omega) (by omega) m1 m2 (by omega) (by omega);exact⟨b,g1,fun _=>g2⟩⟩) l.l 0 0 k xs rfl g
  rw [f1,f2];refine⟨b, ?_, ?_⟩
  ·cases b<;>rfl
  ·cases (b&&!jX xs)<;>rfl
theorem AL:∀(k:Nat) (b:Int) (l:List aj),(l.map aj.sz).sum<k->0<=b->b+k<=9223372036854775807->∃xs,gj k b l=some xs/\xs.length<=(l.map aj.sz).sum
 | 0,_,_,h,_,_=>by omega
 | k+1,b,[],_,_,_=>⟨[],rfl,Nat.zero_le _⟩
 | k+1,b,p::r,h,h0,h1=>by
  simp only [List.map_cons,List.sum_cons] at h ⊢;have g:=p.bM;have hi:Sl.sz aj.sz p.bE=1+(p.bE.l.map aj.sz).sum:=rfl;have i:=p.pos;have j:=Bs.gF p.bF;obtain⟨m,f,o⟩:=AL k (b+1) p.bE.l (by omega) (by omega) (by omega);obtain⟨q,f1,f2⟩:=AL k b r (by omega) h0 (by omega);rw [gj,eH (by omega),oB,f,oB,f1];exact⟨_,rfl,by simp; omega⟩
theorem Hs:∀(r:List aj) (k:Nat) (b:Int) (xs:List Int),gj k b r=some xs->r.length<=xs.length
 | [],_,_,_,_=>Nat.zero_le _
 | _::_,0,_,_,h=>by cases h
 | p::r,k+1,b,xs,h=>by
  rw [gj] at h;obtain⟨i,h1,h⟩:=gA h;obtain⟨j,l,h⟩:=gA h;obtain⟨f,g,h⟩:=gA h;cases h;have:=Hs r k b f g;simp; omega
theorem Ht:∀(n:Nat) (l:Sl aj) (g:Int) (k:Nat) (xs:List Int),(∀x∈l.l,x.sz<n)->gj k g l.l=some xs->xs.length<=1073741824->∀m,n<m->jZ m l=some ((xs.length:Nat):Int)
 | n,l,g,k,xs,hl,b,i,m,hm=>by
  obtain⟨m1,rfl⟩:∃m1,m=m1+1:=⟨m-1,by omega⟩;have loop:∀(r:List aj) (k:Nat) (xs:List Int) (s:Nat),(∀x∈r,x∈l.l)->gj k g r=some xs->s+xs.length<=4294967296->xs.length<=1073741824->∃t:Nat,oN (jZ m1) r (s:Int)=some ((s+t:Nat):Int)/\xs.length=r.length+t:=by
   intro r;induction r with
   | nil =>
    intro k xs s _ b _ _;cases k with
    | zero=>cases b
    | succ k=>cases b; exact⟨0,rfl,rfl⟩
   | cons p r q =>
    intro k xs s hr b u i;cases k with
    | zero=>cases b
    | succ k =>
     rw [gj] at b;obtain⟨v,h1,b⟩:=gA b;obtain⟨f,w,b⟩:=gA b;obtain⟨y,z,b⟩:=gA b;cases b;simp only [List.length_cons,List.length_append] at u i ⊢;have hc:jZ m1 p.bE=some ((f.length:Nat):Int):=by
      cases n with
      | zero=>have:=hl p (hr p List.mem_cons_self); omega
      | succ n=>exact Ht n p.bE v k f (fun x b=>by have:=AJ b; have:=hl p (hr p List.mem_cons_self); omega) w (by omega) m1 (by omega)
     rw [oN];simp only [Ab.on,hc,oB];rw [eH (by omega),oB];obtain⟨t,j,o⟩:=q k y (s+f.length) (fun x b=>hr x (List.mem_cons_of_mem _ b)) z (by omega) (by omega);exact⟨f.length+t,by rw [show ((s:Nat):Int)+((f.length:Nat):Int)=((s+f.length:Nat):Int) by omega,j]; congr 1; omega,by omega⟩
  obtain⟨t,j,o⟩:=loop l.l k xs l.l.length (fun _ h=>h) b (by have:=Hs l.l k g xs b; omega) i;rw [jZ,j,oB];simp only [Ab.on];rw [o]
theorem PC {t:ax}(h:hG t=some true):eE t.ai=true:=by
 unfold hG at h;simp only [Ab.on] at h;cases e:eE t.ai with
 | true=>rfl
 | false =>
  rw [e] at h;simp [aN] at h
theorem PD {s:Bs}(h:eE s=true):s≠[]:=by
 rintro rfl;exact absurd h (by decide +kernel)
theorem PE {d:aq}(hw:d.wf) (i:d.sz<=1048576):∃b,sv d=some b/\(b=true->qC d):=by
 have no:∀p:Prop,∃b,some false=some b/\(b=true->p):=fun _=>⟨false,rfl,fun h=>by cases h⟩;obtain⟨s,w⟩:=PF 600 d (by omega);obtain⟨x,j⟩:=PG d (by omega);unfold sv;rw [w,oB,j];cases decide (s<=(600:Int)) with
 | false=>exact no _
 | true =>
  cases x with
  | false=>exact no _
  | true =>
   obtain⟨g,m,G⟩:=PI i true;have key:∃r,sw d=some r/\(r.l=[]->qC d):=by
    unfold sw;rw [m,oB];by_cases h0:g.l.length=0
    ·obtain⟨o,y,H⟩:=PJ i (PK j);obtain⟨z,B,I⟩:=PL hw i;have C:=List.eq_nil_of_length_eq_zero h0;obtain⟨v,ev,J⟩:∃v,aZ 24 g o=some v/\v.l.length=g.l.length+o.l.length:=⟨_,iw (by decide) (by omega),by simp⟩;obtain⟨u,E⟩:∃u,aZ 24 v z=some u:=⟨_,iw (by decide) (by omega)⟩;rw [show decide ((0:Int)<((g.l.length:Nat):Int))=false from dF (by omega),cond_false,y,oB,ev,oB,B,oB,E]
     refine⟨u,rfl,fun _=>?_⟩;obtain⟨c1,c2⟩:=PM m C;refine⟨j,i,hw, ?_,fun t ht f k=>?_⟩
     ·unfold gR at c1;exact List.pairwise_map.2 c1
     ·obtain⟨F,_⟩:=PN (xk j t ht);rcases F with q|q
      ·exact((c2 t ht).1 q).2 f k
      ·rw [q] at k; cases k
    ·rw [show decide ((0:Int)<((g.l.length:Nat):Int))=true from dT (by omega),cond_true];exact⟨g,rfl,fun h=>absurd (by rw [h]; rfl) h0⟩
   obtain⟨r,k1,k2⟩:=key;simp only [aN,if_true,oB,Bool.and_self,k1];by_cases hr:r.l.length=0
   ·exact⟨true,by rw [hr]; rfl,fun _=>k2 (List.eq_nil_of_length_eq_zero hr)⟩
   ·exact⟨false,by rw [dF (by omega:¬((r.l.length:Nat):Int)=0)]; rfl,fun h=>by cases h⟩
theorem PP (k:Int):uL k=jt k:=rfl
theorem PR {d:aq}(m:qC d){p:cK}(o:p.wf) (ps:p.sz<=1048576):∃b,xl d p=some b/\sx d p=some b:=by
 have w:p.sz=1+(Sl.sz aj.sz p.bE+0):=rfl;have hi:Sl.sz aj.sz p.bE=1+(p.bE.l.map aj.sz).sum:=rfl;obtain⟨xs,j,y⟩:=AL F0 1 p.bE.l (by rw [dM]; omega) (by omega) (by rw [dM]; omega);have hl:∀x∈p.bE.l,x.sz<1048577/\x.wf/\x.sz<=1048576:=fun x g=>by
  have:=Sl.dV (f:=aj.sz) g;exact⟨by omega,o.2.1.2.2 x g,by omega⟩
 have hc:AM p.bE=some ((xs.length:Nat):Int):=Ht 1048577 p.bE 1 F0 xs (fun x g=>(hl x g).1) j (by omega) F0 (by rw [dM]; omega);unfold xl qD sx;rw [PS,oB,oO,oB,j,oB,if_pos (by omega:xs.length<=4611686018427387904)];simp only [Ab.on,PP,AN,j8,hc];cases i:(bQ d.aA.l (jt p.an)).2
 ·exact⟨false,rfl,rfl⟩
 ·have hn:=sy i;have hm:(bQ d.aA.l (jt p.an)).1∈d.aA.l:=by
   rcases sA d.aA.l (jt p.an) with e|e
   ·unfold bQ at i e ⊢;cases hq:d.aA.l.find? (fun t=>t.ai==jt p.an) with
    | none=>rw [hq] at i; cases i
    | some t=>exact List.mem_of_find?_eq_some hq
   ·exact e
  have q:(jt p.an==([]:Bs))=false:=by
   rw [<- hn];exact beq_eq_false_iff_ne.mpr (PD (PC (xk m.r _ hm)))
  rw [hn,q];cases hk:decide ((bQ d.aA.l (jt p.an)).1.an=(1:Int))
  ·exact⟨false,rfl,rfl⟩
  ·obtain⟨b,g1,g2⟩:=Hr m 1048577 p.bE (jt p.an) 1 F0 xs hl j (by omega) (by omega) F0 F0 (by rw [dM]; omega) (by rw [dM]; omega);have s:xm d p.bE (jt p.an)=some b:=by rw [PT]; exact g1
   have u:AO d (jt p.an) p.bE 1=some (b&&!jX xs):=g2;simp only [Bool.not_true,Bool.or_false,cond_false,aN,Bool.and_self,if_true,oB,Bool.true_and,s,u];unfold oP;have v:(xs.any fun k=>decide ((24:Int)<k))=jX xs:=rfl;rw [v];by_cases g:2048<xs.length
   ·rw [dT g,dF (by omega:¬((xs.length:Nat):Int)<=2048)];exact⟨false,rfl,rfl⟩
   ·rw [dF g,dT (by omega:((xs.length:Nat):Int)<=2048)];cases jX xs<;>cases b<;>exact⟨_,rfl,rfl⟩
theorem AP:uM=some true:=by kernel_rfl
theorem PU {d:aq}(f:d.wf) (ds:d.sz<=1048576){p:cK}(g:p.wf) (ps:p.sz<=1048576):uN d p=some true:=by
 have l:p.sz=1+(Sl.sz aj.sz p.bE+0):=rfl;obtain⟨v,i,j⟩:=PE f ds;obtain⟨b,k⟩:=PV (a:=p.bE) (by omega);unfold uN;rw [i,oB,k];cases v
 ·simp only [aN,Bool.not_false,Bool.not_true,Bool.false_eq_true,if_false,Bool.true_or,cond_true,AP]; rfl
 ·cases b
  ·obtain⟨r,g1,g2⟩:=PR (j rfl) g ps;simp only [aN,Bool.not_true,Bool.not_false,if_true,oB,Bool.or_false,cond_false,g1,g2,beq_self_eq_true,AP]; rfl
  ·simp only [aN,Bool.not_true,Bool.not_false,if_true,oB,Bool.or_true,cond_true,AP,oB]
end Go.Proofs
namespace Go.Proofs.YtbghdiaepdaaeaaGreatDoor
open Go Go.Ab Go.RowKit Go.ChangeShapes Go.WideShapes Go.ChangeAt
variable {ak:bf} [jO ak]
theorem Hu {H:Type}(l:List (DataW H)):Rows.uptoBulkAll l=(l.map Rows.uptoBulk).sum:=by
 induction l with
 | nil=>rfl
 | cons x r b=>simp only [Rows.uptoBulkAll,List.map_cons,List.sum_cons,b]
theorem Hv {H:Type}:uD (H:=H) Rows.uptoBulk:=by
 refine⟨fun d=>?_,fun b=>by simp [Rows.uptoBulk],fun e s=>by simp only [Rows.uptoBulk,Hu]; omega,fun l=>by simp only [Rows.uptoBulk,Hu]; omega⟩;cases d with
 | lit l=>cases l<;>simp [Rows.uptoBulk]
 | nil=>simp [Rows.uptoBulk]
 | ptr d=>simp [Rows.uptoBulk]
 | slice f spare=>simp [Rows.uptoBulk]
 | agg parts=>simp [Rows.uptoBulk]
 | iface t d=>simp [Rows.uptoBulk]
 | map entries=>simp [Rows.uptoBulk]
 | held h=>simp [Rows.uptoBulk]
theorem own:ownKnob Tryz.prog.godebug=none:=by kernel_rfl
theorem laid:laidOutB Tryz.prog=true:=by kernel_rfl
theorem PW {H:Type}{l:List (DataW H)}(hk:Rows.uptoSmall H l=true):Rows.uptoBulkAll l<=1048576:=oD hk
theorem table {W:World}(h:laidMet Tryz.prog Rows.normalRightsUptoRow.laid W):∃u b,W.heap[4]?=some (.cells (Lib.pow10Tab.map fun z=>Value.int .u64 z).toArray u b) :=
 OM (P:=Tryz.prog) (name := "internal/strconv.uint64pow10") (g:=4) (t:=286) (e:=257) (n:=20) (by kernel_rfl) (by kernel_rfl) (by kernel_rfl) (by kernel_rfl) (by kernel_rfl) (by kernel_rfl) h
  (by rw [show (Lib.tabData .u64 Lib.pow10Tab:DataW Unit)=Rows.laid_internal_strconv_uint64pow10 from(by kernel_rfl)]; exact .tail _ (.tail _ (.head _)))
theorem PX (u:TypeId) (b:Nat×Nat):fP Tryz.prog (.fix 4 (.cells (Lib.pow10Tab.map fun z=>Value.int .u64 z).toArray u b)):=.of (by kernel_rfl)
theorem PY (a:aq) (g:a.sz<=1048576) (i:a.wf) (b:cK) (j:b.sz<=1048576) (k:b.wf) (u:TypeId) (f:Nat×Nat):AC Tryz.prog 3 [.agg a.c,.agg b.c] (ew 4 (.cells (Lib.pow10Tab.map fun z=>Value.int .u64 z).toArray u f)) fun r h'=>r=.a (.d (.bool true))/\h'=ew 4 (.cells (Lib.pow10Tab.map fun z=>Value.int .u64 z).toArray u f) :=
 PZ (by rw [P0]; exact PU i g k j) _ (gT:=0) rfl (PX u f)
end Go.Proofs.YtbghdiaepdaaeaaGreatDoor
