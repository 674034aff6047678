import Derived.Test.YtdlobimnfmjonaaGreatDoorV10
set_option maxRecDepth 100000
set_option maxHeartbeats 2000000
set_option linter.unusedVariables false
set_option linter.unusedSimpArgs false
namespace Go.Proofs
open Go Go.Ab
theorem Ju {α:Type} [DecidableEq α]:∀(l m:List α),l.Nodup->(∀x∈l,x∈m)->l.length<=m.length
 | [],_,_,_=>by simp
 | a::r,m,hn,b=>by
  have h1:a∈m:=b a (by simp);have f:=Ju r (m.erase a) (List.nodup_cons.1 hn).2 fun x hx=>by
   refine(List.mem_erase_of_ne ?_).2 (b x (by simp [hx]));rintro rfl; exact(List.nodup_cons.1 hn).1 hx
  have g:=List.length_erase_of_mem h1;have j:0<m.length:=List.length_pos_of_mem h1;simp only [List.length_cons]; omega
def qS (d:ak) (own:Bs) (l:List Bs) (x:Z7):List Bs:=if gd d own x&&!l.contains x.av.aa then l++[x.av.aa] else l
def kY (d:ak) (t:List Z7) (own:Bs) (l:List Bs):List Bs:=t.foldl (qS d own) l
theorem u_ (d:ak) (own:Bs) (t:List Z7):∀(l:List Bs) (n:Bs),n∈kY d t own l↔n∈l\/∃x∈t,gd d own x=true/\x.av.aa=n:=by
 unfold kY;induction t with
 | nil=>intro l n; simp
 | cons x r b =>
  intro l n;rw [List.foldl_cons,b];unfold qS;simp only [List.mem_cons,exists_eq_or_imp]
  split
  ·rename_i h
   rw [Bool.and_eq_true] at h;simp only [List.mem_append,List.mem_singleton];constructor
   ·rintro ((h1|rfl)|h1)
    ·exact .inl h1
    ·exact .inr (.inl ⟨h.1,rfl⟩)
    ·exact .inr (.inr h1)
   ·rintro (h1|⟨_,rfl⟩|h1)
    ·exact .inl (.inl h1)
    ·exact .inl (.inr rfl)
    ·exact .inr h1
  ·rename_i h
   constructor
   ·rintro (h1|h1)
    ·exact .inl h1
    ·exact .inr (.inr h1)
   ·rintro (h1|⟨f,rfl⟩|h1)
    ·exact .inl h1
    ·rw [f,Bool.true_and] at h;exact .inl (by simpa using h)
    ·exact .inr h1
theorem Jv (d:ak) (own:Bs) (t:List Z7):∀(l:List Bs),l.Nodup->(kY d t own l).Nodup:=by
 unfold kY;induction t with
 | nil=>intro l h; exact h
 | cons x r g =>
  intro l hl;rw [List.foldl_cons];refine g _ ?_;unfold qS
  split
  ·rename_i h
   rw [Bool.and_eq_true] at h;have j:x.av.aa∉l:=by simpa using h.2
   rw [List.nodup_append];refine⟨hl,by simp, ?_⟩;intro a k b f;simp only [List.mem_singleton] at f;subst f; rintro rfl; exact j k
  ·exact hl
theorem R8 (d:ak) (own:Bs) (t:List Z7):∀(l:List Bs),l <+: kY d t own l:=by
 unfold kY;induction t with
 | nil=>intro l; exact List.prefix_refl _
 | cons x r b =>
  intro l;rw [List.foldl_cons];refine List.IsPrefix.trans ?_ (b _);unfold qS
  split
  ·exact List.prefix_append _ _
  ·exact List.prefix_refl _
theorem Jw {l:List ah}{s:Bs}(h:(bl l s).2=true):s∈l.map (·.aa):=by
 have hn:=u9 h;rcases zj l s with e|e
 ·unfold bl at h e hn;cases b:l.find? (fun t=>t.aa==s) with
  | none=>rw [b] at h; cases h
  | some t=>exact List.mem_map.2 ⟨t,List.mem_of_find?_eq_some b,by have:=List.find?_some b; simpa using this⟩
 ·exact List.mem_map.2 ⟨_,e,hn⟩
theorem Jx {d:ak}{own:Bs}{x:Z7}(h:gd d own x=true):x.av.aa=own\/x.av.aa∈d.aj.l.map (·.aa):=by
 unfold gd at h;simp only [Bool.and_eq_true,Bool.or_eq_true] at h;rcases h.2 with h|h
 ·exact .inl (by simpa using h)
 ·exact .inr (Jw h.1)
structure og (d:ak) (own:Bs) (t:List Z7) (i:Nat) (l:List Bs):Prop where
 reach:∀n∈l,fh d own t n
 first:∀x∈t,gd d own x=true->x.av.aa∈l
 done:∀k (h:k<l.length),k<i->∀x∈jC d l[k],gd d own x=true->x.av.aa∈l
 nodup:l.Nodup
 known:∀n∈l,n=own\/n∈d.aj.l.map (·.aa)
 le:i<=l.length
theorem og.start (d:ak) (own:Bs) (t:List Z7):og d own t 0 (kY d t own []):=by
 refine⟨fun n hn=>?_,fun x hx hg=>(u_ _ _ _ _ _).2 (.inr ⟨x,hx,hg,rfl⟩),fun k _ h=>absurd h (Nat.not_lt_zero _),Jv _ _ _ _ List.nodup_nil,fun n hn=>?_,Nat.zero_le _⟩
 ·rcases (u_ _ _ _ _ _).1 hn with h|⟨x,hx,hg,rfl⟩
  ·simp at h
  ·exact .here hx hg
 ·rcases (u_ _ _ _ _ _).1 hn with h|⟨x,hx,hg,rfl⟩
  ·simp at h
  ·exact Jx hg
theorem og.step {d:ak}{own:Bs}{t:List Z7}{i:Nat}{l:List Bs}(h:og d own t i l) (hi:i<l.length):og d own t (i+1) (kY d (jC d l[i]) own l):=by
 have b:=R8 d own (jC d l[i]) l;have f:∀n,n∈l->n∈kY d (jC d l[i]) own l:=fun n hn=>(u_ _ _ _ _ _).2 (.inl hn);refine⟨fun n hn=>?_,fun x hx hg=>f _ (h.first x hx hg),fun k hk m x hx hg=>?_,Jv _ _ _ _ h.nodup,fun n hn=>?_,Nat.le_trans hi b.length_le⟩
 ·rcases (u_ _ _ _ _ _).1 hn with h1|⟨x,hx,hg,rfl⟩
  ·exact h.reach n h1
  ·exact .step (h.reach _ (List.getElem_mem hi)) hx hg
 ·have g:k<l.length:=by omega
  have e:(kY d (jC d l[i]) own l)[k]=l[k]:=(b.getElem g).symm;rw [e] at hx;by_cases j:k<i
  ·exact f _ (h.done k g j x hx hg)
  ·have:k=i:=by omega
   subst this;exact(u_ _ _ _ _ _).2 (.inr ⟨x,hx,hg,rfl⟩)
 ·rcases (u_ _ _ _ _ _).1 hn with h1|⟨x,hx,hg,rfl⟩
  ·exact h.known n h1
  ·exact Jx hg
theorem og.len {d:ak}{own:Bs}{t:List Z7}{i:Nat}{l:List Bs}(h:og d own t i l):l.length<=d.aj.l.length+1:=by
 have:=Ju l (own::d.aj.l.map (·.aa)) h.nodup fun x hx=>by
  rcases h.known x hx with e|e
  ·simp [e]
  ·exact List.mem_cons_of_mem _ e
 simpa using this
open Classical in
theorem og.end {d:ak}{own:Bs}{t:List Z7}{i:Nat}{l:List Bs}(h:og d own t i l) (hi:l.length<=i):l.contains own=decide (fh d own t own):=by
 have b:∀n,fh d own t n->n∈l:=by
  intro n hn;induction hn with
  | here hx hg=>exact h.first _ hx hg
  | @step n x _ hx hg f =>
   obtain⟨k,hk,e⟩:=List.getElem_of_mem f;exact h.done k hk (by omega) x (by rw [e]; exact hx) hg
 rw [Bool.eq_iff_iff];simp only [List.contains_iff_mem,decide_eq_true_eq];exact⟨fun hm=>h.reach _ hm,fun hr=>b _ hr⟩
end Go.Proofs
namespace Go.Proofs
open Go Go.Ab
theorem R9 (s:Bs) (l:List ah):pu s l=(match l.find? (fun t=>t.aa==s) with|some t=>Sum.inr (t,true)|none=>Sum.inl ()):=by
 induction l with
 | nil=>rfl
 | cons a r b =>
  rw [pu,List.find?_cons];simp only [on,b];cases a.aa==s<;>rfl
theorem ko (d:ak) (s:Bs):eR d s=bl d.aj.l s:=by
 unfold eR bl on;rw [R9];cases d.aj.l.find? (fun t=>t.aa==s)<;>rfl
theorem vb {l:List ah}{s:Bs}(h:(bl l s).2=false):(bl l s).1=ah.zero:=by
 unfold bl at h ⊢;cases e:l.find? (fun t=>t.aa==s) with
 | none=>rfl
 | some t=>rw [e] at h; cases h
theorem Ez (d:ak) (n:Bs):jN d n=ja d n:=by
 unfold jN sI ja qU pR;simp only [on,kf,ko,show jq n=cV n from rfl];cases f:cV n<;>cases b:(bl d.aj.l n).2
 ·rw [vb b]; rfl
 ·simp only [Bool.false_or,Bool.true_and,Bool.not_false,cond_true];cases decide ((bl d.aj.l n).1.ai=(4:Int))<;>rfl
 ·rfl
 ·rfl
theorem R_ (s:Bs):yY s=some (fB s):=by
 unfold yY fB;simp only [on,RW];cases eW s<;>rfl
theorem BE (n:Bs) (bad before:Bool) (at_:Bs):∃nl,nP n bad before at_=some ⟨nl,b_ (bad||!fB n) 6 at_++b_ before 7 at_⟩:=by
 unfold nP;rw [R_];generalize fB n=b;cases bad<;>cases b<;>cases before<;>exact⟨_,rfl⟩
theorem tC {α:Type}(f:α->Bs) (n:Bs):∀l:List α,(l.map f).contains n=l.any fun y=>f y==n
 | []=>rfl
 | a::r=>by
  rw [List.map_cons,List.contains_cons,tC f n r,List.any_cons,BEq.comm]
theorem Jy (n:Bs):∀l:List Z7,(match jM n l with|.inl _=>false|.inr e=>e.2)=l.any fun y=>y.aa==n
 | []=>rfl
 | a::r=>by
  rw [jM,List.any_cons,<- Jy n r];simp only [on];cases a.aa==n<;>rfl
theorem Sa (s:Sl Z7) (n:Bs):(iZ s n).2=(s.l.map Z7.aa).contains n:=by
 rw [tC,<- Jy];unfold iZ;simp only [on];cases jM n s.l<;>rfl
theorem Jz (n:Bs):∀l:List Z6,(match kP n l with|.inl _=>false|.inr e=>e.2)=l.any fun y=>y.aa==n
 | []=>rfl
 | a::r=>by
  rw [kP,List.any_cons,<- Jz n r];simp only [on];cases a.aa==n<;>rfl
theorem Sb (t:ah) (n:Bs):(nQ t n).2=(t.aq.l.map Z6.aa).contains n:=by
 rw [tC,<- Jz];unfold nQ;simp only [on];cases kP n t.aq.l<;>rfl
theorem tD {α:Type}{l r:List α}{i:Nat}{x:α}(h:l.drop i=x::r):l.take (i+1)=l.take i++[x]:=by
 rw [List.take_add_one,(mL h).2]; rfl
theorem mN {s r:Sl Z5}(h:s.l.length+r.l.length<=1000000000000):bh 24 s r=some ⟨s.nl&&r.l.isEmpty,s.l++r.l⟩:=jk (by decide) (by omega)
theorem zo (u:Sl Z5) (b:Bool) (e:Int) (at_:Bs) (h:u.l.length<=100000000000):∃nl,(bif b then((bh 24 u (⟨false,[(Z5.mk e at_)]⟩:Sl Z5)).bind fun x=>some x) else some u)=some ⟨nl,u.l++b_ b e at_⟩:=by
 cases b
 ·exact⟨u.nl,by simp [b_]⟩
 ·rw [cond_true,mN (by simp; omega)]; exact⟨_,rfl⟩
theorem Se (d:ak) (n at_:Bs) (u:Sl Z5) (h:u.l.length<=100000000000):∃nl,(bif (!px d n) then((bh 24 u (⟨false,[(Z5.mk 8 at_)]⟩:Sl Z5)).bind fun b=>some b) else(bif (!ja d n) then((bh 24 u (⟨false,[(Z5.mk 10 at_)]⟩:Sl Z5)).bind fun f=>some f) else(some u)))=some ⟨nl,u.l++lV d n at_ 1⟩:=by
 have e:(!px d n)=(!(bl d.aj.l n).2&&!cV n):=by
  unfold px;simp only [on,ko,show jq n=cV n from rfl];cases cV n<;>cases (bl d.aj.l n).2<;>rfl
 rw [e];unfold lV;cases (!(bl d.aj.l n).2&&!cV n)
 ·exact zo u _ 10 at_ h
 ·exact zo u true 8 at_ h
theorem Sg (d:ak) (n at_:Bs) (u:Sl Z5) (h:u.l.length<=100000000000):∃nl,(bif (!px d n) then((bh 24 u (⟨false,[(Z5.mk 8 at_)]⟩:Sl Z5)).bind fun b=>some b) else(bif (((!cV n)&&(bl d.aj.l n).2)&&(decide ((bl d.aj.l n).1.ai=(5:Int)))) then((bh 24 u (⟨false,[(Z5.mk 10 at_)]⟩:Sl Z5)).bind fun f=>some f) else(some u)))=some ⟨nl,u.l++lV d n at_ 0⟩:=by
 have e:(!px d n)=(!(bl d.aj.l n).2&&!cV n):=by
  unfold px;simp only [on,ko,show jq n=cV n from rfl];cases cV n<;>cases (bl d.aj.l n).2<;>rfl
 have g:(((!cV n)&&(bl d.aj.l n).2)&&(decide ((bl d.aj.l n).1.ai=(5:Int))))=(!cV n&&decide ((bl d.aj.l n).1.ai=(5:Int))):=by
  cases j:(bl d.aj.l n).2
  ·rw [vb j]; cases cV n<;>rfl
  ·cases cV n<;>rfl
 rw [e,g];unfold lV;cases (!(bl d.aj.l n).2&&!cV n)
 ·exact zo u _ 10 at_ h
 ·exact zo u true 8 at_ h
theorem JA {d:ak}{a1:Sl Z7}{a b:Bs}(j:a.length<=4000000) (k:b.length<=4000000):∀(l:List Z7) (i:Nat) (s:Sl Z5),a1.l.drop i=l->(∀x∈l,x.aa.length<=1048576) ->
  s.l.length+(gY d a b ((a1.l.take i).map Z7.aa) l).length<=10000000000->∃nl,py d a1 a b l i s=some ⟨nl,s.l++gY d a b ((a1.l.take i).map Z7.aa) l⟩
 | [],i,s,_,_,_=>⟨s.nl,by rw [py]; simp [gY]⟩
 | x::r,i,s,f,hx,hl=>by
  have hn:=hx x (.head _);rw [gY] at hl ⊢;simp only [List.length_append] at hl;rw [py];simp only [on,Ez];rw [cI (by omega),oB,cI (by simp; omega),oB,Sa];obtain⟨v,g⟩:=BE x.aa false (((a1.l.take i).map Z7.aa).contains x.aa) (a++x.aa++b);simp only [Bool.false_or] at g;rw [g,oB,mN (by simp only [List.length_append]; omega),oB]
  obtain⟨m,p⟩:=Se d x.av.aa (a++x.aa++b) ⟨s.nl&&(b_ (!fB x.aa) 6 (a++x.aa++b)++b_ (((a1.l.take i).map Z7.aa).contains x.aa) 7 (a++x.aa++b)).isEmpty,s.l++(b_ (!fB x.aa) 6 (a++x.aa++b)++b_ (((a1.l.take i).map Z7.aa).contains x.aa) 7 (a++x.aa++b))⟩ (by simp only [List.length_append]; omega);rw [p,oB];have ht:(a1.l.take (i+1)).map Z7.aa=(a1.l.take i).map Z7.aa++[x.aa]:=by rw [tD f,List.map_append]; rfl
  obtain⟨q,t⟩:=JA (d:=d) j k r (i+1) ⟨m,(s.l++(b_ (!fB x.aa) 6 (a++x.aa++b)++b_ (((a1.l.take i).map Z7.aa).contains x.aa) 7 (a++x.aa++b)))++lV d x.av.aa (a++x.aa++b) 1⟩ (mL f).1 (fun y u=>hx y (.tail _ u)) (by rw [ht]; simp only [List.length_append]; omega);rw [t,ht];exact⟨q,by simp only [List.append_assoc]⟩
theorem JB {d:ak}(a1:Sl Z7){a b:Bs}(f:a.length<=4000000) (g:b.length<=4000000) (hx:∀x∈a1.l,x.aa.length<=1048576) (hl:(gY d a b [] a1.l).length<=10000000000):∃nl,sJ d a1 a b=some ⟨nl,gY d a b [] a1.l⟩:=by
 obtain⟨nl,e⟩:=JA (d:=d) f g a1.l 0 (Sl.nil:Sl Z5) rfl hx (by show 0+_<=_; simpa using hl);unfold sJ;rw [e];exact⟨nl,rfl⟩
theorem JC {d:ak}{t:ah}(k:t.aa.length<=1048576):∀(l:List Z6) (i:Nat) (s:Sl Z5),t.aq.l.drop i=l->(∀x∈l,x.aa.length<=1048576/\∀y∈x.ay.l,y.aa.length<=1048576) ->
  s.l.length+(kU d t.aa ((t.aq.l.take i).map Z6.aa) l).length<=10000000000->∃nl,nT d t l i s=some ⟨nl,s.l++kU d t.aa ((t.aq.l.take i).map Z6.aa) l⟩
 | [],i,s,_,_,_=>⟨s.nl,by rw [nT]; simp [kU]⟩
 | x::r,i,s,g,hx,hl=>by
  obtain⟨hn,f⟩:=hx x (.head _);rw [kU] at hl ⊢;simp only [List.length_append] at hl;rw [nT];simp only [on,ko,show jq x.av.aa=cV x.av.aa from rfl];rw [cI (by simp; omega),oB,cI (by simp; omega),oB,Sb];obtain⟨v,j⟩:=BE x.aa false (((t.aq.l.take i).map Z6.aa).contains x.aa) (t.aa++[46]++x.aa);simp only [Bool.false_or] at j
  rw [j,oB,mN (by simp only [List.length_append]; omega),oB];obtain⟨m,p⟩:=Sg d x.av.aa (t.aa++[46]++x.aa) ⟨s.nl&&(b_ (!fB x.aa) 6 (t.aa++[46]++x.aa)++b_ (((t.aq.l.take i).map Z6.aa).contains x.aa) 7 (t.aa++[46]++x.aa)).isEmpty,s.l++(b_ (!fB x.aa) 6 (t.aa++[46]++x.aa)++b_ (((t.aq.l.take i).map Z6.aa).contains x.aa) 7 (t.aa++[46]++x.aa))⟩ (by simp only [List.length_append]; omega)
  rw [p,oB,cI (by simp; omega),oB];obtain⟨w,q⟩:=JB (d:=d) x.ay (a:=t.aa++[46]++x.aa++[40]) (b:=[41]) (by simp; omega) (by simp) f (by omega);rw [q,oB,mN (by simp only [List.length_append]; omega),oB];have ht:(t.aq.l.take (i+1)).map Z6.aa=(t.aq.l.take i).map Z6.aa++[x.aa]:=by rw [tD g,List.map_append]; rfl
  obtain⟨n4,u⟩:=JC (d:=d) k r (i+1) ⟨m&&(gY d (t.aa++[46]++x.aa++[40]) [41] [] x.ay.l).isEmpty,((s.l++(b_ (!fB x.aa) 6 (t.aa++[46]++x.aa)++b_ (((t.aq.l.take i).map Z6.aa).contains x.aa) 7 (t.aa++[46]++x.aa)))++lV d x.av.aa (t.aa++[46]++x.aa) 0)++gY d (t.aa++[46]++x.aa++[40]) [41] [] x.ay.l⟩ (mL g).1 (fun y f=>hx y (.tail _ f)) (by rw [ht]; simp only [List.length_append]; omega)
  rw [u,ht];exact⟨n4,by simp only [List.append_assoc]⟩
theorem EA (t:ah) (x:Z8):∀(m k:Nat) (b:Bool),k+m<=t.ax.l.length->qF t x m k b=some (b||((t.ax.l.drop k).take m).any fun y=>y.aa==x.aa)
 | 0,k,b,_=>by rw [qF]; simp
 | m+1,k,b,h=>by
  rw [qF];have hk:k<t.ax.l.length:=by omega
  rw [List.drop_eq_getElem_cons hk,List.take_succ_cons,List.any_cons];cases b
  ·simp only [aZ,Bool.not_false,if_true,List.getElem?_eq_getElem hk,oB,Bool.false_or];rw [EA t x m (k+1) _ (by omega)]
  ·simp only [aZ,Bool.not_true,Bool.false_eq_true,if_false,Bool.true_or];rw [EA t x m (k+1) _ (by omega),Bool.true_or]
theorem JD {t:ah}(f:t.aa.length<=1048576):∀(l:List Z8) (i:Nat) (s:Sl Z5),t.ax.l.drop i=l->(∀x∈l,x.aa.length<=1048576) ->
  s.l.length+(kV t.aa ((t.ax.l.take i).map Z8.aa) l).length<=10000000000->∃nl,mG t l i s=some ⟨nl,s.l++kV t.aa ((t.ax.l.take i).map Z8.aa) l⟩
 | [],i,s,_,_,_=>⟨s.nl,by rw [mG]; simp [kV]⟩
 | x::r,i,s,b,hx,hl=>by
  have hn:=hx x (.head _);have hi:i<t.ax.l.length:=by
   have:=congrArg List.length b; simp at this; omega
  rw [kV] at hl ⊢;simp only [List.length_append] at hl;rw [mG];simp only [on];rw [EA t x i 0 false (by omega),oB,cI (by simp; omega),oB,cI (by simp; omega),oB,List.drop_zero,Bool.false_or,<- tC];obtain⟨p,g⟩:=BE x.aa (oe x.aa) (((t.ax.l.take i).map Z8.aa).contains x.aa) (t.aa++[46]++x.aa);have j:nP x.aa ((((x.aa==([116,114,117,101]:Bs)))||((x.aa==([102,97,108,115,101]:Bs))))||((x.aa==([110,117,108,108]:Bs)))) (((t.ax.l.take i).map Z8.aa).contains x.aa) (t.aa++[46]++x.aa)=_:=g
  rw [j,oB,mN (by simp only [List.length_append]; omega),oB];have ht:(t.ax.l.take (i+1)).map Z8.aa=(t.ax.l.take i).map Z8.aa++[x.aa]:=by rw [tD b,List.map_append]; rfl
  have H:∀u:Sl Z5,u.l=s.l++(b_ (oe x.aa||!fB x.aa) 6 (t.aa++[46]++x.aa)++b_ (((t.ax.l.take i).map Z8.aa).contains x.aa) 7 (t.aa++[46]++x.aa)) ->
    ∃nl,mG t r (i+1) u=some ⟨nl,s.l++((b_ (oe x.aa||!fB x.aa) 6 (t.aa++[46]++x.aa)++b_ (((t.ax.l.take i).map Z8.aa).contains x.aa) 7 (t.aa++[46]++x.aa))++kV t.aa ((t.ax.l.take i).map Z8.aa++[x.aa]) r)⟩:=by
   intro u hu;obtain⟨n4,k⟩:=JD f r (i+1) u (mL b).1 (fun y m=>hx y (.tail _ m)) (by rw [ht,hu]; simp only [List.length_append]; omega);rw [k,ht,hu];exact⟨n4,by simp only [List.append_assoc]⟩
  exact H _ rfl
theorem JE (n:Bs):∀l:List Bs,(match qE n l with|.inl _=>false|.inr e=>e)=l.contains n
 | []=>rfl
 | a::r=>by
  rw [qE,List.contains_cons,<- JE n r,BEq.comm];simp only [on];cases a==n<;>rfl
theorem JF (s:Sl Bs) (n:Bs):wC s n=s.l.contains n:=by
 rw [<- JE];unfold wC;simp only [on];cases qE n s.l<;>rfl
theorem Sh (t:aL):yZ t=some (tw t):=by
 unfold yZ tw;cases h:t.aH.l with
 | nil=>rfl
 | cons a r =>
  cases b:decide (((((a::r:List Int)).length:Nat):Int)=(1:Int))
  ·rfl
  ·rfl
theorem EB (d:ak) (own:Bs):∀(l:List Z7) (s:Sl Bs),s.l.length+l.length<=1000000000->∃nl,pw d own l s=some ⟨nl,kY d l own s.l⟩
 | [],s,_=>⟨s.nl,by rw [pw]; rfl⟩
 | x::r,s,h=>by
  simp only [List.length_cons] at h;rw [pw];simp only [on,ko];rw [Sh,oB];have e:(tw x.av&&(x.av.aa==own||(bl d.aj.l x.av.aa).2&&decide ((bl d.aj.l x.av.aa).1.ai=5)))=gd d own x:=rfl;rw [e,JF];have f:(gd d own x&&!(bif gd d own x then s.l.contains x.av.aa else false))=(gd d own x&&!s.l.contains x.av.aa):=by cases gd d own x<;>rfl
  rw [f];have g:kY d (x::r) own s.l=kY d r own (qS d own s.l x):=rfl;rw [g];cases b:gd d own x&&!s.l.contains x.av.aa
  ·have hn:qS d own s.l x=s.l:=by unfold qS; rw [b]; rfl
   rw [hn];exact EB d own r s (by omega)
  ·have hn:qS d own s.l x=s.l++[x.av.aa]:=by unfold qS; rw [b]; rfl
   rw [hn,cond_true,jk (by decide) (by simp; omega),oB,oB];exact EB d own r ⟨_,s.l++[x.av.aa]⟩ (by simp; omega)
theorem JG (d:ak) (t:ah) (own:Bs) (s:Sl Bs) (h:s.l.length+t.aF.l.length<=1000000000):∃nl,wD d t own s=some ⟨nl,kY d t.aF.l own s.l⟩:=by
 obtain⟨nl,e⟩:=EB d own t.aF.l s h;rw [QV];unfold Bm;rw [e];exact⟨nl,rfl⟩
theorem Si {d:ak}(b:∀t∈d.aj.l,t.sz<=1048576) (n:Bs):(jC d n).length<=1048576:=by
 unfold jC;rcases zj d.aj.l n with e|e
 ·rw [e]; exact Nat.zero_le _
 ·have h1:=b _ e;have g:=(bl d.aj.l n).1.bt;have j:=Sl.iY (f:=Z7.sz) (bl d.aj.l n).1.aF Z7.pos;omega
open Classical in
theorem JH {d:ak}(b:∀t∈d.aj.l,t.sz<=1048576) (hl:d.aj.l.length<=1048576) (t:ah):∀(n i:Nat) (s:Sl Bs),og d t.aa t.aF.l i s.l->d.aj.l.length+2<i+n->wE d t n s i=some (decide (fh d t.aa t.aF.l t.aa))
 | 0,i,s,hw,h=>by have:=hw.len; have:=hw.le; omega
 | n+1,i,s,hw,h=>by
  have hlen:=hw.len;rw [wE];by_cases hi:i<s.l.length
  ·rw [dT (by omega:((i:Nat):Int)<((s.l.length:Nat):Int)),cond_true,List.getElem?_eq_getElem hi,oB,QH,oB,ko];have f:=Si b s.l[i];obtain⟨nl,e⟩:=JG d (bl d.aj.l s.l[i]).1 t.aa s (by unfold jC at f; omega);rw [e,oB];exact JH b hl t n (i+1) ⟨nl,_⟩ (hw.step hi) (by omega)
  ·rw [dF (by omega:¬((i:Nat):Int)<((s.l.length:Nat):Int)),cond_false];unfold Bn;rw [QS,oB,JF,hw.end (by omega)]
open Classical in
theorem Sj {d:ak}(b:∀t∈d.aj.l,t.sz<=1048576) (hl:d.aj.l.length<=1048576){t:ah}(ht:t.sz<=1048576):y5 d t=some (decide (t.ai=5)&&kT d t):=by
 unfold y5 kT;cases decide (t.ai=5)
 ·rfl
 ·have g:=t.bt;have j:=Sl.iY (f:=Z7.sz) t.aF Z7.pos;obtain⟨nl,e⟩:=JG d t t.aa (Sl.nil:Sl Bs) (by show 0+_<=_; omega);rw [Bool.not_true,cond_false,e,oB,Bool.true_and];exact JH b hl t F0 0 ⟨nl,_⟩ (og.start d t.aa t.aF.l) (by rw [fR]; omega)
theorem Sk (t:ah):Bj t=tA t:=rfl
theorem Sn {d:ak}(k:∀t∈d.aj.l,t.sz<=1048576) (hl:d.aj.l.length<=1048576){t:ah}(ht:t.sz<=1048576) (b:Bool):∃nl,wG d t b=some ⟨nl,(b_ (!fB t.aa) 6 t.aa++b_ b 7 t.aa)++(b_ (tA t) 8 t.aa++(b_ (wY t) 9 t.aa++b_ (decide (t.ai=(5:Int))&&kT d t) 5 t.aa))⟩:=by
 unfold wG;obtain⟨m,p⟩:=BE t.aa false b t.aa;rw [QM,p,oB,QO,oB,Sk,Bool.false_or];have len:∀b e,(b_ b e t.aa).length<=1:=fun b e=>by cases b<;>simp [b_]
 have r:=len (!fB t.aa) 6; have s:=len b 7;have f:∀u:Sl Z5,y7 u=some u:=fun _=>rfl;have g:∀u:Sl Z5,u.l.length<=10->∃nl,sG d t u=some ⟨nl,u.l++b_ (decide (t.ai=(5:Int))&&kT d t) 5 t.aa⟩:=fun u hu=>by
  unfold sG;rw [Sj k hl ht,oB];cases decide (t.ai=(5:Int))&&kT d t
  ·exact⟨u.nl,by simp [b_,f]⟩
  ·rw [cond_true,mN (by simp; omega),oB,f]; exact⟨_,rfl⟩
 have j:∀u:Sl Z5,u.l.length<=8->∃nl,wF d t u=some ⟨nl,u.l++(b_ (wY t) 9 t.aa++b_ (decide (t.ai=(5:Int))&&kT d t) 5 t.aa)⟩:=fun u hu=>by
  unfold wF;have hk:∀c,c=wY t->∃nl,(bif c then((bh 24 u (⟨false,[(Z5.mk 9 t.aa)]⟩:Sl Z5)).bind fun q=>sG d t q) else(sG d t u))=some ⟨nl,u.l++(b_ (wY t) 9 t.aa++b_ (decide (t.ai=(5:Int))&&kT d t) 5 t.aa)⟩:=by
   intro c hc;rw [<- hc];cases c
   ·obtain⟨nl,e⟩:=g u (by omega);exact⟨nl,by rw [cond_false,e]; simp [b_]⟩
   ·obtain⟨nl,e⟩:=g ⟨_,u.l++[Z5.mk 9 t.aa]⟩ (by simp; omega);rw [cond_true,mN (by simp; omega),oB,e];exact⟨nl,by simp [b_]⟩
  exact hk _ rfl
 cases tA t
 ·obtain⟨nl,e⟩:=j ⟨m,b_ (!fB t.aa) 6 t.aa++b_ b 7 t.aa⟩ (by simp; omega);exact⟨nl,by rw [cond_false,e]; simp [b_]⟩
 ·obtain⟨nl,e⟩:=j ⟨_,(b_ (!fB t.aa) 6 t.aa++b_ b 7 t.aa)++[Z5.mk 8 t.aa]⟩ (by simp; omega);rw [cond_true,mN (by simp; omega),oB,e];exact⟨nl,by simp [b_]⟩
theorem EC {d:ak}(x:ah){i:Nat}(hi:i<=d.aj.l.length) (hl:d.aj.l.length<=1048576):∀(n k:Nat) (b:Bool),k<=i->i<k+n->wH d (i:Int) x n b (k:Int)=wG d x (b||((d.aj.l.drop k).take (i-k)).any fun y=>y.aa==x.aa)
 | 0,k,b,h1,j=>by omega
 | n+1,k,b,h1,j=>by
  rw [wH];by_cases hk:k<i
  ·rw [dT (by omega:((k:Nat):Int)<((i:Nat):Int)),cond_true];have f:k<d.aj.l.length:=by omega
   have hx:c_ d.aj.l (k:Int)=some d.aj.l[k]:=by unfold c_; rw [if_pos (by simp),Int.toNat_natCast,List.getElem?_eq_getElem f]
   have g:cN (k:Int) 1=some ((k+1:Nat):Int):=by rw [iL (by omega)]; rfl
   obtain⟨m,hm⟩:∃m,i-k=m+1:=⟨i-k-1,by omega⟩;rw [hx,hm,List.drop_eq_getElem_cons f,List.take_succ_cons,List.any_cons];cases b
   ·simp only [aZ,Bool.not_false,if_true,oB,Bool.false_or,g];rw [EC x hi hl n (k+1) _ (by omega) (by omega),show i-(k+1)=m by omega]
   ·simp only [aZ,Bool.not_true,Bool.false_eq_true,if_false,oB,Bool.true_or,g];rw [EC x hi hl n (k+1) _ (by omega) (by omega),Bool.true_or]
  ·have:i-k=0:=by omega
   rw [dF (by omega:¬((k:Nat):Int)<((i:Nat):Int)),cond_false,this,List.take_zero,List.any_nil,Bool.or_false]
theorem Sp {d:ak}(b:∀t∈d.aj.l,t.sz<=1048576) (hl:d.aj.l.length<=1048576){t:ah}{i:Nat}(ht:d.aj.l[i]?=some t):∃nl,Ed d (i:Int)=some ⟨nl,lW d ((d.aj.l.take i).map ah.aa) t⟩:=by
 have hi:=(List.getElem?_eq_some_iff.1 ht).1;have hx:c_ d.aj.l (i:Int)=some t:=by unfold c_; rw [if_pos (by simp),Int.toNat_natCast,ht]
 unfold Ed Bo;rw [hx,oB,QI,oB,show (0:Int)=((0:Nat):Int) from rfl,EC t (by omega) hl F0 0 _ (Nat.zero_le _) (by rw [fR]; omega),List.drop_zero,Nat.sub_zero,<- tC,Bool.or_comm];exact Sn b hl (b t (List.mem_of_getElem? ht)) _
theorem Sq {d:ak}{t:ah}(ht:t.sz<=1048576) (u:Sl Z5) (h:u.l.length+(kW d t).length<=10000000000) :
  ∃nl,(bif (bif (decide (t.ai=(1:Int))) then((decide (t.ai=(1:Int)))) else((decide (t.ai=(2:Int))))) then((y9 d t).bind fun m=>(bh 24 u m).bind fun p=>some p) else(bif (decide (t.ai=(4:Int))) then((y_ t).bind fun q=>(bh 24 u q).bind fun r=>some r) else(bif (decide (t.ai=(5:Int))) then((a_ t.aa ([46]:Bs)).bind fun s=>(sJ d t.aF s ([]:Bs)).bind fun v=>(bh 24 u v).bind fun w=>some w) else(some u))))=some ⟨nl,u.l++kW d t⟩:=by
 have B:=t.bt;have hn:Bs.sz t.aa=t.aa.length+1:=rfl;have j:∀{x:Z7},x.sz<=1048576->x.aa.length<=1048576:=fun {x} h=>by have:=x.bt; have:Bs.sz x.aa=x.aa.length+1:=rfl; omega
 unfold kW at h ⊢
 revert h
 cases (bif (decide (t.ai=(1:Int))) then((decide (t.ai=(1:Int)))) else((decide (t.ai=(2:Int)))))
 ·simp only [cond_false];cases decide (t.ai=(4:Int))
  ·simp only [cond_false];cases decide (t.ai=(5:Int))
   ·intro h; exact⟨u.nl,by simp⟩
   ·simp only [cond_true];intro h;rw [cI (by simp; omega),oB];obtain⟨k,g⟩:=JB (d:=d) t.aF (a:=t.aa++[46]) (b:=[]) (by simp; omega) (by simp) (fun x hx=>j (by have:=Sl.de (f:=Z7.sz) hx; omega)) (by omega);rw [g,oB,mN (by simp only; omega)]; exact⟨_,rfl⟩
  ·simp only [cond_true];intro h;obtain⟨k,g⟩:=JD (t:=t) (by omega) t.ax.l 0 (Sl.nil:Sl Z5) rfl (fun x hx=>by have:=Sl.de (f:=Z8.sz) hx; have:=x.bt; have:Bs.sz x.aa=x.aa.length+1:=rfl; omega) (by show 0+_<=_; simp only [List.take_zero,List.map_nil]; omega);unfold y_;rw [g];simp only [oB,on,Sl.nil,List.nil_append,List.take_zero,List.map_nil];rw [mN (by simp only; omega)]; exact⟨_,rfl⟩
 ·simp only [cond_true];intro h;obtain⟨k,g⟩:=JC (d:=d) (t:=t) (by omega) t.aq.l 0 (Sl.nil:Sl Z5) rfl (fun x hx=>by
   have h1:=Sl.de (f:=Z6.sz) hx; have C:=x.bt; have:Bs.sz x.aa=x.aa.length+1:=rfl;exact⟨by omega,fun y z=>j (by have:=Sl.de (f:=Z7.sz) z; omega)⟩) (by show 0+_<=_; simp only [List.take_zero,List.map_nil]; omega)
  unfold y9;rw [g];simp only [oB,on,Sl.nil,List.nil_append,List.take_zero,List.map_nil];rw [mN (by simp only; omega)]; exact⟨_,rfl⟩
theorem JI {d:ak}(b:∀t∈d.aj.l,t.sz<=1048576) (hl:d.aj.l.length<=1048576):∀(l:List ah) (i:Nat) (s:Sl Z5),d.aj.l.drop i=l->s.l.length+(jb d ((d.aj.l.take i).map ah.aa) l).length<=10000000000->∃nl,pz d l i s=some ⟨nl,s.l++jb d ((d.aj.l.take i).map ah.aa) l⟩
 | [],i,s,_,_=>⟨s.nl,by rw [pz]; simp [jb]⟩
 | t::r,i,s,f,h=>by
  obtain⟨t1,t2⟩:=mL f;rw [jb] at h ⊢;simp only [List.length_append] at h;rw [pz];simp only [on];obtain⟨q,g⟩:=Sp b hl t2;rw [g,oB,mN (by simp only; omega),oB];obtain⟨j,k⟩:=Sq (d:=d) (b t (List.mem_of_getElem? t2)) ⟨s.nl&&(lW d ((d.aj.l.take i).map ah.aa) t).isEmpty,s.l++lW d ((d.aj.l.take i).map ah.aa) t⟩ (by simp only [List.length_append]; omega)
  rw [k,oB];have ht:(d.aj.l.take (i+1)).map ah.aa=(d.aj.l.take i).map ah.aa++[t.aa]:=by rw [tD f,List.map_append]; rfl
  obtain⟨m,p⟩:=JI b hl r (i+1) ⟨j,(s.l++lW d ((d.aj.l.take i).map ah.aa) t)++kW d t⟩ t1 (by rw [ht]; simp only [List.length_append]; omega);rw [p,ht];exact⟨m,by simp only [List.append_assoc]⟩
theorem JJ {d:ak}(f:∀t∈d.aj.l,t.sz<=1048576) (hl:d.aj.l.length<=1048576) (b:Bool) (h:(gZ d b).length<=9000000):∃nl,za d b=some ⟨nl,gZ d b⟩:=by
 unfold gZ at h ⊢;simp only [List.length_append] at h;obtain⟨g,j⟩:=JI f hl d.aj.l 0 (Sl.nil:Sl Z5) rfl (by show 0+_<=_; simp only [List.take_zero,List.map_nil]; omega);unfold za;rw [j];simp only [oB,on,ko,Sl.nil,List.nil_append,List.take_zero,List.map_nil];obtain⟨k,m⟩:=zo ⟨g,jb d [] d.aj.l⟩ (b&&!(bl d.aj.l ([81,117,101,114,121]:Bs)).2) 30 ([81,117,101,114,121]:Bs) (by simp only; omega)
 rw [m];exact⟨k,rfl⟩
end Go.Proofs
namespace Go.Proofs
open Go Go.Ab
theorem Sr (s:Bs) (l:List Bs):∀n:Nat,(l.contains s=false->kr s l n=Sum.inl ())/\(l.contains s=true->∃m:Nat,kr s l n=Sum.inr (m:Int)):=by
 induction l with
 | nil=>intro n; exact⟨fun _=>rfl,fun h=>by simp at h⟩
 | cons a r b =>
  intro n;rw [kr];simp only [on,List.contains_cons];cases s==a
  ·simp only [Bool.false_or,cond_false]; exact b (n+1)
  ·simp only [Bool.true_or,cond_true]; exact⟨fun h=>by simp at h,fun _=>⟨n,rfl⟩⟩
theorem ED (a:Sl Bs) (s:Bs):lX a s=a.l.contains s:=by
 unfold lX oh;simp only [on];have h:=Sr s a.l 0;cases hc:a.l.contains s
 ·rw [h.1 hc]; rfl
 ·obtain⟨m,e⟩:=h.2 hc;rw [e]; exact dT (by simp)
theorem JK (a1:Sl Int):∀(l:List Int) (s:Nat),l.length+s=a1.l.length->ol a1 l s=some (if l=a1.l.drop s then Sum.inl () else Sum.inr false)
 | [],s,h=>by
  rw [ol,if_pos];rw [List.drop_eq_nil_of_le]; simp at h; omega
 | x::r,s,h=>by
  simp only [List.length_cons] at h;have b:s<a1.l.length:=by omega
  have hg:=List.getElem?_eq_getElem b;rw [ol];simp only [on];rw [hg,oB,JK a1 r (s+1) (by omega),Q.mz hg];generalize a1.l[s]=y;generalize a1.l.drop (s+1)=t;by_cases e:x=y
  ·subst e; simp only [decide_true,Bool.not_true,cond_false,List.cons.injEq,true_and]
  ·simp [e]
theorem JL (a b:Sl Int):wZ a b=some (decide (a.l=b.l)):=by
 unfold wZ;by_cases h:a.l.length=b.l.length
 ·rw [show decide ((a.l.length:Int)=(b.l.length:Int))=true from dT (by omega)];simp only [Bool.not_true,cond_false];rw [JK b a.l 0 (by omega),List.drop_zero];by_cases e:a.l=b.l<;>simp [e,on]
 ·rw [show decide ((a.l.length:Int)=(b.l.length:Int))=false from dF (by omega)];have:a.l≠b.l:=fun e=>h (by rw [e]);simp [this]
theorem JM (a1:Sl Int):∀(l:List Int) (s:Nat),pE a1 l s=ol a1 l s
 | [],s=>rfl
 | x::r,s=>by rw [pE,ol]; simp only [on,JM a1 r]
theorem Ss (a b:Sl Int):uS a b=some (decide (a.l=b.l)):=by
 rw [<- JL]; unfold uS wZ; rw [JM]; all_goals rfl
theorem w6 (t:aL):iz t=eZ t.aH.l:=wW t
theorem EE {t:aL}(h:t.aH.l.length<=1048576) (h1:1<=t.aH.l.length):pH t=some ⟨t.aa,⟨false,t.aH.l.drop 1⟩⟩:=by
 unfold pH;rw [Bc h1,oB,jk (by decide) (by simp; omega)];simp
theorem vc {t:aL}(h:t.aH.l.length<=1048576):qV t=some ⟨t.aa,⟨false,(cr t.aH).l⟩⟩:=by
 unfold qV cr;simp only [on,w6];cases hn:eZ t.aH.l
 ·simp only [cond_false];rw [jk (by decide) (by simp; omega)];simp
 ·simp only [cond_true];rw [EE h (Et hn)]; rfl
theorem zp (s:Sl Int):(cr s).l.length<=s.l.length:=by unfold cr; cases eZ s.l<;>simp
theorem JN {t:aL}(h:t.aH.l.length<=1048576):zq t=some (gX (cr t.aH).l):=by
 unfold zq;rw [vc h];simp only [oB,on,gX];cases (cr t.aH).l with
 | nil=>rfl
 | cons a r=>simp; by_cases h:a=2<;>simp [h]
theorem zu {t:aL}(h:t.aH.l.length<=1048576):mQ t=some (bif gX (cr t.aH).l then(⟨t.aa,⟨false,(cr t.aH).l.drop 1⟩⟩,true) else(⟨[],Sl.nil⟩,false)):=by
 unfold mQ;rw [JN h];simp only [oB];cases hl:gX (cr t.aH).l with
 | false=>rfl
 | true =>
  simp only [Bool.not_true,cond_false,cond_true];rw [vc h,oB,EE (by have:=zp t.aH; simp only; omega) (Bz hl)];rfl
theorem JO {f:Bs->Option Bool}:∀{l:List Bs},(∀s∈l,∃b,f s=some b)->∃r,wm f l=some r
 | [],_=>⟨_,rfl⟩
 | s::l,h=>by
  obtain⟨b,e⟩:=h s (.head _);obtain⟨r,g⟩:=JO (l:=l) fun x hx=>h x (.tail _ hx);exact⟨_,by rw [wm,e,oB,g]; rfl⟩
theorem w8 {t:aL}(h:eZ t.aH.l=true):(lS t).aH.l.length<t.aH.l.length:=by
 have:=Et h;simp only [lS,cr,h,cond_true,List.length_drop]; omega
def jr (d:ak) (a n:Bs):Bool :=
 (bl d.aj.l n).2&&(decide ((bl d.aj.l n).1.ai=1)&&((decide ((bl d.aj.l a).1.ai=1)&&n==a)||((decide ((bl d.aj.l a).1.ai=2)&&(bl d.aj.l n).1.aM.l.contains a)||(decide ((bl d.aj.l a).1.ai=3)&&(bl d.aj.l a).1.ax.l.any fun y=>y.aa==n))))
def mR (d:ak) (a:Bs) (x:ah×Bool) (s:Bs):Bool:=(bl d.aj.l s).2&&(decide ((bl d.aj.l s).1.ai=1)&&(!decide (x.1.ai=2)||(bl d.aj.l s).1.aM.l.contains a))
theorem JP (t:ah) (a:Bs):BF t a=t.aM.l.contains a:=ED _ _
theorem JQ (d:ak) (a:Bs) (x:ah×Bool) (s:Bs):w9 d a x s=some (mR d a x s):=by
 unfold w9 mR;rw [JR,oB];simp only [kf,JS,JP];cases (bl d.aj.l s).2<;>cases decide ((bl d.aj.l s).1.ai=(1:Int))<;>cases decide (x.1.ai=(2:Int))<;>cases (bl d.aj.l s).1.aM.l.contains a<;>rfl
theorem EF (d:ak) (h:d.aj.l.length<=1048576):∀(n:Nat) (o:Sl Bs) (s:Nat) (l:List Bs),s<=d.aj.l.length->d.aj.l.length<s+n->o.l.length+(d.aj.l.length-s)<=2097152 ->
  ∃r,tE d n o s l=some r/\∀z,z∈r.l↔z∈o.l\/z∈l/\z∈(d.aj.l.drop s).map ah.aa
 | 0,_,_,_,h1,b,_=>by omega
 | n+1,o,s,l,h1,b,j=>by
  rw [tE];by_cases f:s<d.aj.l.length
  ·rw [show decide (((s:Nat):Int)<((d.aj.l.length:Nat):Int))=true from dT (by omega),cond_true,List.getElem?_eq_getElem f,oB];unfold zw;have g:(d.aj.l.drop s).map ah.aa=d.aj.l[s].aa::(d.aj.l.drop (s+1)).map ah.aa:=by rw [List.drop_eq_getElem_cons f]; rfl
   cases hc:l.contains d.aj.l[s].aa
   ·obtain⟨r,e,hr⟩:=EF d h n o (s+1) l (by omega) (by omega) (by omega);rw [cond_false];refine⟨r,e,fun z=>?_⟩;rw [hr z,g,List.mem_cons];have hn:d.aj.l[s].aa∉l:=by simpa using hc
    constructor
    ·rintro (h1|⟨h1,b⟩)
     ·exact .inl h1
     ·exact .inr ⟨h1,.inr b⟩
    ·rintro (h1|⟨h1,b|b⟩)
     ·exact .inl h1
     ·rw [b] at h1; exact absurd h1 hn
     ·exact .inr ⟨h1,b⟩
   ·have hm:d.aj.l[s].aa∈l:=by simpa using hc
    rw [cond_true,jk (by decide) (by simp; omega),oB];obtain⟨r,e,hr⟩:=EF d h n ⟨_,o.l++[d.aj.l[s].aa]⟩ (s+1) (List.erase l d.aj.l[s].aa) (by omega) (by omega) (by simp; omega);refine⟨r,e,fun z=>?_⟩;rw [hr z,g,List.mem_cons];simp only [List.mem_append,List.mem_singleton];by_cases hz:z=d.aj.l[s].aa
    ·subst hz;exact⟨fun _=>.inr ⟨hm,.inl rfl⟩,fun _=>.inl (.inr rfl)⟩
    ·rw [List.mem_erase_of_ne hz];constructor
     ·rintro ((h1|h1)|⟨h1,b⟩)
      ·exact .inl h1
      ·exact absurd h1 hz
      ·exact .inr ⟨h1,.inr b⟩
     ·rintro (h1|⟨h1,b|b⟩)
      ·exact .inl (.inl h1)
      ·exact absurd b hz
      ·exact .inr ⟨h1,b⟩
  ·rw [show decide (((s:Nat):Int)<((d.aj.l.length:Nat):Int))=false from dF (by omega),cond_false];refine⟨o,rfl,fun z=>?_⟩;rw [List.drop_of_length_le (by omega)];simp
theorem BG (d:ak) (h:d.aj.l.length<=1048576) (a:Bs) (x:ah×Bool) (l:List Bs):∃r,tF d a x l=some r/\∀z,z∈r.l↔z∈l/\mR d a x z=true:=by
 unfold tF;obtain⟨r,e⟩:=JO (l:=l) (f:=w9 d a x) fun s _=>⟨_,JQ d a x s⟩;obtain⟨_,hr⟩:=DM e;rw [e,oB];unfold BH;obtain⟨b,g,j⟩:=EF d h (d.aj.l.length+1) (Sl.nil:Sl Bs) 0 r (Nat.zero_le _) (by omega) (by show 0+_<=_; omega);refine⟨b,g,fun z=>?_⟩;rw [j z,List.drop_zero,hr,List.mem_filter,JQ];have k:(some (mR d a x z)==some true)=mR d a x z:=by cases mR d a x z<;>rfl
 rw [k];constructor
 ·rintro (h1|⟨h1,_⟩)
  ·cases h1
  ·exact h1
 ·intro h1;refine .inr ⟨h1, ?_⟩;have hk:=h1.2;unfold mR at hk;rw [Bool.and_eq_true] at hk;exact Jw hk.1
theorem EG (d:ak) (h:d.aj.l.length<=1048576) (a:Bs) (x:ah×Bool):∀(n s:Nat) (l:List Bs),s<=d.aj.l.length->d.aj.l.length<s+n ->
  ∃r,tG d a x n s l=some r/\∀z,z∈r.l↔(z∈l\/∃y∈d.aj.l.drop s,y.aM.l.contains a=true/\y.aa=z)/\mR d a x z=true
 | 0,_,_,h1,f=>by omega
 | n+1,s,l,h1,f=>by
  rw [tG];by_cases b:s<d.aj.l.length
  ·rw [show decide (((s:Nat):Int)<((d.aj.l.length:Nat):Int))=true from dT (by omega),cond_true,List.getElem?_eq_getElem b,oB,JS,oB,JP];unfold zx;rw [List.drop_eq_getElem_cons b];cases hc:d.aj.l[s].aM.l.contains a
   ·obtain⟨r,e,hr⟩:=EG d h a x n (s+1) l (by omega) (by omega);rw [cond_false];refine⟨r,e,fun z=>?_⟩;rw [hr z];simp only [List.mem_cons,exists_eq_or_imp,hc,Bool.false_eq_true,false_and,false_or]
   ·obtain⟨r,e,hr⟩:=EG d h a x n (s+1) (cD l d.aj.l[s].aa) (by omega) (by omega);rw [cond_true];refine⟨r,e,fun z=>?_⟩;rw [hr z,u7];simp only [List.mem_cons,exists_eq_or_imp,hc,true_and];rw [or_assoc,eq_comm (a:=z)]
  ·rw [show decide (((s:Nat):Int)<((d.aj.l.length:Nat):Int))=false from dF (by omega),cond_false];obtain⟨r,e,hr⟩:=BG d h a x l;refine⟨r,e,fun z=>?_⟩;rw [hr z,List.drop_of_length_le (by omega)];simp
theorem JT (d:ak) (h:d.aj.l.length<=1048576) (a:Bs) (x:ah×Bool):∀(n s:Nat) (l:List Bs),s<=x.1.ax.l.length->x.1.ax.l.length<s+n ->
  ∃r,w_ d a x n s l=some r/\∀z,z∈r.l↔(z∈l\/∃y∈x.1.ax.l.drop s,y.aa=z)/\mR d a x z=true
 | 0,_,_,h1,f=>by omega
 | n+1,s,l,h1,f=>by
  rw [w_];by_cases b:s<x.1.ax.l.length
  ·rw [show decide (((s:Nat):Int)<((x.1.ax.l.length:Nat):Int))=true from dT (by omega),cond_true,List.getElem?_eq_getElem b,oB,List.drop_eq_getElem_cons b];obtain⟨r,e,hr⟩:=JT d h a x n (s+1) (cD l x.1.ax.l[s].aa) (by omega) (by omega);refine⟨r,e,fun z=>?_⟩;rw [hr z,u7];simp only [List.mem_cons,exists_eq_or_imp];rw [or_assoc,eq_comm (a:=z)]
  ·rw [show decide (((s:Nat):Int)<((x.1.ax.l.length:Nat):Int))=false from dF (by omega),cond_false];obtain⟨r,e,hr⟩:=BG d h a x l;refine⟨r,e,fun z=>?_⟩;rw [hr z,List.drop_of_length_le (by omega)];simp
theorem Su {d:ak}(h:d.aj.l.length<=1048576) (a:Bs):∃r,EH d a=some r/\∀z,z∈r.l↔jr d a z=true:=by
 unfold EH BJ;rw [JR,oB,kf];by_cases h1:(bl d.aj.l a).1.ai=1
 ·obtain⟨r,e,hr⟩:=BG d h a (bl d.aj.l a) (cD [] a);rw [dT h1,cond_true];refine⟨r,e,fun z=>?_⟩;rw [hr z,u7];unfold mR jr;rw [h1];simp;constructor
  ·rintro ⟨rfl,f,b⟩; exact⟨f,b,rfl⟩
  ·rintro ⟨f,b,rfl⟩; exact⟨rfl,f,b⟩
 ·rw [dF h1,cond_false];by_cases f:(bl d.aj.l a).1.ai=2
  ·obtain⟨r,e,hr⟩:=EG d h a (bl d.aj.l a) (d.aj.l.length+1) 0 [] (Nat.zero_le _) (by omega);rw [dT f,cond_true];refine⟨r,e,fun z=>?_⟩;rw [hr z];unfold mR jr;rw [f];simp;intro b g j;rcases zj d.aj.l z with k|k
   ·rw [k] at g; cases g
   ·exact⟨_,k,j,u9 b⟩
  ·rw [dF f,cond_false];by_cases b:(bl d.aj.l a).1.ai=3
   ·obtain⟨r,e,hr⟩:=JT d h a (bl d.aj.l a) ((bl d.aj.l a).1.ax.l.length+1) 0 [] (Nat.zero_le _) (by omega);rw [dT b,cond_true];refine⟨r,e,fun z=>?_⟩;rw [hr z];unfold mR jr;rw [b];simp;constructor
    ·rintro ⟨g,j,m⟩; exact⟨j,m,g⟩
    ·rintro ⟨j,m,g⟩; exact⟨g,j,m⟩
   ·obtain⟨r,e,hr⟩:=BG d h a (bl d.aj.l a) [];rw [dF b,cond_false];refine⟨r,e,fun z=>?_⟩;rw [hr z];unfold jr;rw [dF h1,dF f,dF b];simp
theorem JU (n:Bs):∀l:List Bs,(match qG n l with|.inl _=>false|.inr e=>e)=l.contains n
 | []=>rfl
 | a::r=>by
  rw [qG,List.contains_cons,<- JU n r,BEq.comm];simp only [on];cases a==n<;>rfl
theorem EI (s:Sl Bs) (n:Bs):qH s n=s.l.contains n:=by
 rw [<- JU];unfold qH;simp only [on];cases qG n s.l<;>rfl
theorem JV (n:Bs):∀l:List Z8,(match qW n l with|.inl _=>false|.inr e=>e)=l.any fun y=>y.aa==n
 | []=>rfl
 | a::r=>by
  rw [qW,List.any_cons,<- JV n r];simp only [on];cases a.aa==n<;>rfl
theorem JW (t:ah) (n:Bs):ve t n=t.ax.l.any fun y=>y.aa==n:=by
 rw [<- JV];unfold ve;simp only [on];cases qW n t.ax.l<;>rfl
theorem JX (d:ak){i:Nat}(hi:i<d.aj.l.length) (hl:d.aj.l.length<=1048576):∀(n k:Nat),k<=i->i<k+n->xa d (i:Int) n (k:Int)=some (!((d.aj.l.drop k).take (i-k)).any fun y=>y.aa==d.aj.l[i].aa)
 | 0,k,h1,f=>by omega
 | n+1,k,h1,f=>by
  rw [xa];by_cases hk:k<i
  ·have b:k<d.aj.l.length:=by omega
   have hx:c_ d.aj.l (k:Int)=some d.aj.l[k]:=by unfold c_; rw [if_pos (by simp),Int.toNat_natCast,List.getElem?_eq_getElem b]
   have g:c_ d.aj.l (i:Int)=some d.aj.l[i]:=by unfold c_; rw [if_pos (by simp),Int.toNat_natCast,List.getElem?_eq_getElem hi]
   have j:cN (k:Int) 1=some ((k+1:Nat):Int):=by rw [iL (by omega)]; rfl
   obtain⟨m,hm⟩:∃m,i-k=m+1:=⟨i-k-1,by omega⟩;rw [dT (by omega:((k:Nat):Int)<((i:Nat):Int)),cond_true,hx,oB,g,oB,hm,List.drop_eq_getElem_cons b,List.take_succ_cons,List.any_cons];cases d.aj.l[k].aa==d.aj.l[i].aa
   ·rw [cond_false,j,oB,JX d hi hl n (k+1) (by omega) (by omega),show i-(k+1)=m by omega,Bool.false_or]
   ·rfl
  ·have:i-k=0:=by omega
   rw [dF (by omega:¬((k:Nat):Int)<((i:Nat):Int)),cond_false,this,List.take_zero,List.any_nil];rfl
theorem Sv (d:ak){i:Nat}(hi:i<d.aj.l.length) (hl:d.aj.l.length<=1048576):EJ d (i:Int)=some (!(d.aj.l.take i).any fun y=>y.aa==d.aj.l[i].aa):=by
 unfold EJ BK;rw [show (0:Int)=((0:Nat):Int) from rfl,JX d hi hl F0 0 (Nat.zero_le _) (by rw [fR]; omega),List.drop_zero,Nat.sub_zero]
def pS (a:Bs) (x o:ah):Bool:=(decide (x.ai=1)&&o.aa==a)||((decide (x.ai=2)&&o.aM.l.contains a)||(decide (x.ai=3)&&x.ax.l.any fun y=>y.aa==o.aa))
theorem EK {d:ak}(hl:d.aj.l.length<=1048576) (a:Bs) (x:ah×Bool) (hx:x.2=true):∀(l:List ah) (i:Nat) (s:Sl Bs),d.aj.l.drop i=l->s.l.length+l.length<=2097152 ->
  ∃r,jP d a x l i s=some r/\∀z,z∈r.l↔z∈s.l\/∃(j:Nat) (h:j<d.aj.l.length),i<=j/\d.aj.l[j].ai=1/\((d.aj.l.take j).any fun y=>y.aa==d.aj.l[j].aa)=false/\pS a x.1 d.aj.l[j]=true/\d.aj.l[j].aa=z
 | [],i,s,p,_=>by
  refine⟨s,by rw [jP],fun z=>⟨.inl, ?_⟩⟩;rintro (h|⟨j,h,h1,_⟩)
  ·exact h
  ·have:=List.drop_eq_nil_iff.1 p; omega
 | o::r,i,s,p,B=>by
  simp only [List.length_cons] at B;obtain⟨u,b⟩:=mL p;obtain⟨hi,b⟩:=List.getElem?_eq_some_iff.1 b
  -- what is left when this one does not count
  have skip:(¬(o.ai=1/\((d.aj.l.take i).any fun y=>y.aa==o.aa)=false/\pS a x.1 o=true))->∃q,jP d a x r (i+1) s=some q/\∀z,z∈q.l↔z∈s.l\/∃(j:Nat) (h:j<d.aj.l.length),i<=j/\d.aj.l[j].ai=1/\((d.aj.l.take j).any fun y=>y.aa==d.aj.l[j].aa)=false/\pS a x.1 d.aj.l[j]=true/\d.aj.l[j].aa=z:=fun C=>by
   obtain⟨q,e,hq⟩:=EK hl a x hx r (i+1) s u (by omega);refine⟨q,e,fun z=>?_⟩;rw [hq z];constructor
   ·rintro (h|⟨j,h,h1,f⟩)
    ·exact .inl h
    ·exact .inr ⟨j,h,by omega,f⟩
   ·rintro (h|⟨j,h,h1,f,g,k,m⟩)
    ·exact .inl h
    ·by_cases t:i=j
     ·subst t;rw [b] at f g k;exact absurd ⟨f,g,k⟩ C
     ·exact .inr ⟨j,h,by omega,f,g,k,m⟩
  have more:o.ai=1->((d.aj.l.take i).any fun y=>y.aa==o.aa)=false->pS a x.1 o=true->∃q,jP d a x r (i+1) ⟨s.nl&&List.isEmpty [o.aa],s.l++[o.aa]⟩=some q/\∀z,z∈q.l↔z∈s.l\/∃(j:Nat) (h:j<d.aj.l.length),i<=j/\d.aj.l[j].ai=1/\((d.aj.l.take j).any fun y=>y.aa==d.aj.l[j].aa)=false/\pS a x.1 d.aj.l[j]=true/\d.aj.l[j].aa=z:=fun E k2 F=>by
   obtain⟨q,e,hq⟩:=EK hl a x hx r (i+1) ⟨s.nl&&List.isEmpty [o.aa],s.l++[o.aa]⟩ u (by simp; omega);refine⟨q,e,fun z=>?_⟩;rw [hq z];simp only [List.mem_append,List.mem_singleton];constructor
   ·rintro ((h|h)|⟨j,h,h1,f⟩)
    ·exact .inl h
    ·exact .inr ⟨i,hi,Nat.le_refl _,by rw [b]; exact E,by rw [b]; exact k2,by rw [b]; exact F,by rw [b]; exact h.symm⟩
    ·exact .inr ⟨j,h,by omega,f⟩
   ·rintro (h|⟨j,h,h1,f,g,k,m⟩)
    ·exact .inl (.inl h)
    ·by_cases t:i=j
     ·subst t;rw [b] at m;exact .inl (.inr m.symm)
     ·exact .inr ⟨j,h,by omega,f,g,k,m⟩
  rw [jP,hx,cond_true];simp only [on];have v:=Sv d hi hl;rw [b] at v;by_cases hk:o.ai=1
  ·rw [dT hk,v];simp only [Bool.not_true,Bool.not_false,aZ,if_true,oB,Bool.false_or];cases w:(d.aj.l.take i).any fun y=>y.aa==o.aa
   ·simp only [Bool.not_false,Bool.not_true,cond_false];have G:(((decide (x.1.ai=(1:Int)))&&((o.aa==a)))||((decide (x.1.ai=(2:Int)))&&(bif (!((decide (x.1.ai=(1:Int)))&&((o.aa==a)))&&(decide (x.1.ai=(2:Int)))) then qH o.aM a else false))||((decide (x.1.ai=(3:Int)))&&(bif (!(((decide (x.1.ai=(1:Int)))&&((o.aa==a)))||((decide (x.1.ai=(2:Int)))&&(bif (!((decide (x.1.ai=(1:Int)))&&((o.aa==a)))&&(decide (x.1.ai=(2:Int)))) then qH o.aM a else false)))&&(decide (x.1.ai=(3:Int)))) then ve x.1 o.aa else false)))=pS a x.1 o:=by
     unfold pS;rw [EI,JW];cases decide (x.1.ai=(1:Int))<;>cases (o.aa==a)<;>cases decide (x.1.ai=(2:Int))<;>cases decide (x.1.ai=(3:Int))<;>cases o.aM.l.contains a<;>rfl
    rw [G];cases hc:pS a x.1 o
    ·rw [cond_false,oB];exact skip fun h=>by rw [hc] at h; exact absurd h.2.2 (by simp)
    ·rw [cond_true,jk (by decide) (by simp; omega),oB,oB];exact more hk w hc
   ·simp only [Bool.not_true,cond_true,Bool.not_false,oB];exact skip fun h=>by rw [w] at h; exact absurd h.2.1 (by simp)
  ·rw [dF hk];simp only [Bool.not_false,Bool.not_true,aZ,Bool.false_eq_true,if_false,Bool.true_or,cond_true,oB];exact skip fun h=>hk h.1
theorem Sw {l:List ah}{j:Nat}(h:j<l.length) (b:((l.take j).any fun y=>y.aa==l[j].aa)=false):bl l l[j].aa=(l[j],true):=by
 have:l.find? (fun t=>t.aa==l[j].aa)=some l[j]:=by
  rw [List.find?_eq_some_iff_getElem];refine⟨by simp,j,h,rfl,fun k hk=>?_⟩;rw [List.any_eq_false] at b;have f:k<(l.take j).length:=by simp; omega
  have:=b (l.take j)[k] (List.getElem_mem f);rw [List.getElem_take] at this
  simpa using this
 unfold bl;rw [this]
theorem Sx {l:List ah}{z:Bs}(h:(bl l z).2=true):∃(j:Nat) (b:j<l.length),l[j]=(bl l z).1/\((l.take j).any fun y=>y.aa==l[j].aa)=false:=by
 have hn:=u9 h;unfold bl at h hn ⊢;cases e:l.find? (fun t=>t.aa==z) with
 | none=>rw [e] at h; cases h
 | some t =>
  rw [e] at hn;obtain⟨_,j,b,h1,f⟩:=List.find?_eq_some_iff_getElem.1 e;refine⟨j,b,h1, ?_⟩;rw [List.any_eq_false];intro y g;obtain⟨k,hk,rfl⟩:=List.getElem_of_mem g;have m:k<j:=by simp at hk; omega
  rw [List.getElem_take,h1];have hn:t.aa=z:=hn;rw [hn]
  simpa using f k m
theorem Sy {d:ak}(hl:d.aj.l.length<=1048576) (a:Bs):∃r,zy d a=some r/\∀z,z∈r.l↔jr d a z=true:=by
 unfold zy;simp only [on,ko];cases f:(bl d.aj.l a).2
 ·have h0:∀(l:List ah) (i:Nat) (s:Sl Bs),jP d a (bl d.aj.l a) l i s=some s:=fun l i s=>by
   cases l with
   | nil=>rw [jP]
   | cons o r=>rw [jP,f]; rfl
  rw [h0];refine⟨_,rfl,fun z=>?_⟩;unfold jr;rw [vb f];simp [Sl.nil,ah.zero]
 ·obtain⟨r,e,hr⟩:=EK hl a (bl d.aj.l a) f d.aj.l 0 (Sl.nil:Sl Bs) rfl (by show 0+_<=_; omega);rw [e];refine⟨r,rfl,fun z=>?_⟩;rw [hr z];constructor
  ·rintro (h|⟨j,h,_,g,k,m,q⟩)
   ·cases h
   ·have b:=Sw h k;rw [q] at b;unfold jr;rw [b];unfold pS at m;rw [q] at m;simp only [g,decide_true,Bool.true_and];exact m
  ·intro h;unfold jr at h;simp only [Bool.and_eq_true,decide_eq_true_eq] at h;obtain⟨h1,g,k⟩:=h;obtain⟨j,b,p,t⟩:=Sx h1;refine .inr ⟨j,b,Nat.zero_le _,by rw [p]; exact g,t, ?_,by rw [p]; exact u9 h1⟩;unfold pS;rw [p,u9 h1];exact k
theorem Sz {d:ak}(hl:d.aj.l.length<=1048576) (a b:Bs):xb d a b=some (jr d b a):=by
 obtain⟨r,e,h⟩:=Su hl b;unfold xb;rw [e,oB];simp only [on,ED]
 congr 1
 rw [Bool.eq_iff_iff,List.contains_iff_mem];exact h a
theorem EL {d:ak}(hl:d.aj.l.length<=1048576) (a b:Bs):tH d a b=some (jr d b a):=by
 obtain⟨r,e,h⟩:=Sy hl b;unfold tH;rw [e,oB];simp only [on,EI]
 congr 1
 rw [Bool.eq_iff_iff,List.contains_iff_mem];exact h a
theorem JY {s b:Sl Int}(h:b.l=s.l):(cr b).l=(cr s).l:=by unfold cr; rw [h]; cases eZ s.l<;>simp [h]
theorem BL {d:ak}(j:d.aj.l.length<=1048576):∀(n m:Nat) (a b k b':aL),dZ a.aH->dZ b.aH->k.aa=a.aa->k.aH.l=a.aH.l->b'.aa=b.aa->b'.aH.l=b.aH.l->a.aH.l.length+b.aH.l.length<n->a.aH.l.length+b.aH.l.length<m ->
  ∃v,pU n d a b=some v/\kZ m d k b'=some v
 | 0,_,_,_,_,_,_,_,_,_,_,_,h,_=>by omega
 | _+1,0,_,_,_,_,_,_,_,_,_,_,_,h=>by omega
 | n+1,m+1,a,b,k,b',f,g,z,q,t,p,hn,hm=>by
  have u:k.aH.l.length<=1048576:=by rw [q]; exact f.2
  have w:b'.aH.l.length<=1048576:=by rw [p]; exact g.2
  rw [pU,kZ];simp only [on,wW,By f,By g,Ew f,Ew g,w6,vc u,vc w,zu u,zu w,oB,q,p,JY q,JY p,z,t];cases B:eZ b.aH.l
  ·simp only [cond_false];cases r:eZ a.aH.l
   ·simp only [cond_false];have last:∃v,(aZ (!((a.aa==b.aa))) (xb d a.aa b.aa) false fun s=>some (((a.aa==b.aa))||s))=some v/\(aZ (!((a.aa==b.aa))) (tH d a.aa b.aa) false fun s=>some (((a.aa==b.aa))||s))=some v:=by
     rw [Sz j,EL j];cases (a.aa==b.aa)<;>exact⟨_,rfl,rfl⟩
    cases C:gX (cr a.aH).l
    ·cases y:gX (cr b.aH).l
     ·exact last
     ·exact⟨_,rfl,rfl⟩
    ·cases y:gX (cr b.aH).l
     ·exact⟨_,rfl,rfl⟩
     ·have h1:=BA C;have E:=BA y;obtain⟨v,hv,hw⟩:=BL j n m (uZ a) (uZ b) ⟨a.aa,⟨false,(cr a.aH).l.drop 1⟩⟩ ⟨b.aa,⟨false,(cr b.aH).l.drop 1⟩⟩ (Ev f) (Ev g) rfl rfl rfl rfl (by omega) (by omega);simp only [cond_true,Bool.or_self,Bool.and_self,aZ,if_true,hv,hw,oB];exact⟨_,by simp,rfl⟩
   ·have h1:=w8 r;obtain⟨v,hv,hw⟩:=BL j n m (lS a) b ⟨a.aa,⟨false,(cr a.aH).l⟩⟩ b' (Bx f) g rfl rfl t p (by omega) (by omega);simp only [cond_true,hv,hw];exact⟨_,rfl,rfl⟩
  ·simp only [cond_true];cases r:eZ a.aH.l
   ·exact⟨_,rfl,rfl⟩
   ·have h1:=w8 r;have E:=w8 B;obtain⟨v,hv,hw⟩:=BL j n m (lS a) (lS b) ⟨a.aa,⟨false,(cr a.aH).l⟩⟩ ⟨b.aa,⟨false,(cr b.aH).l⟩⟩ (Bx f) (Bx g) rfl rfl rfl rfl (by omega) (by omega);simp only [aZ,if_true,hv,hw,oB];exact⟨_,rfl,rfl⟩
def lY (d:ak) (a b:aL):Bool:=(BM d a b).getD false
theorem BN {d:ak}(j:d.aj.l.length<=1048576){a b:aL}(f:dZ a.aH) (g:dZ b.aH):BM d a b=some (lY d a b)/\EM d a b=some (lY d a b):=by
 have h1:=f.2; have k:=g.2;obtain⟨v,hv,hw⟩:=BL j F0 F0 a b a b f g rfl rfl rfl rfl (by rw [fR]; omega) (by rw [fR]; omega);have e:lY d a b=v:=by unfold lY BM; rw [hv]; rfl
 rw [e]; exact⟨hv,hw⟩
def k7 (a b:aL):Bool:=a.aa==b.aa&&decide (a.aH.l=b.aH.l)
theorem SA (a b:aL):k7 a b=k7 b a:=by
 unfold k7;rw [BEq.comm (a:=a.aa),decide_eq_decide.2 (eq_comm (a:=a.aH.l))]
theorem SB (a b:aL):zz a b=some (k7 a b):=by
 unfold zz k7;rw [JL];cases a.aa==b.aa<;>rfl
theorem SC (a b:aL):qI a b=some (k7 b a):=by
 rw [SA];unfold qI k7;rw [Ss];cases a.aa==b.aa<;>rfl
def eX (d:ak) (n:Bs) (k:Int):Int:=bif !(bl d.aj.l n).2&&!cV n then 8 else bif !(bl d.aj.l n).2||!decide ((bl d.aj.l n).1.ai=k) then 9 else 0
def mS (p n:Bs) (b:Bool):List Z5:=b_ b 22 (p++[40]++n++[41])
def lZ (p:Bs) (y:Z6) (l:List Z7):List Z5:=l.flatMap fun a=>mS p a.aa (!(dw y.ay.l a.aa).2||!k7 a.av (dw y.ay.l a.aa).1.av)
def oo (p:Bs) (x:Z6) (l:List Z7):List Z5:=l.flatMap fun b=>mS p b.aa ((!(dw x.ay.l b.aa).2&&eZ b.av.aH.l)&&!b.ck)
def mU (d:ak) (t:ah) (x:Z6):List Z5 :=
 bif !(eS t.aq.l x.aa).2 then [Z5.mk 20 (t.aa++[46]++x.aa)] else
  (b_ (!lY d (eS t.aq.l x.aa).1.av x.av) 10 (t.aa++[46]++x.aa)++(lZ (t.aa++[46]++x.aa) (eS t.aq.l x.aa).1 x.ay.l++oo (t.aa++[46]++x.aa) x (eS t.aq.l x.aa).1.ay.l))
def mV (d:ak) (t:ah) (l:List Z6):List Z5:=l.flatMap (mU d t)
def gB (d:ak) (s:List Bs) (n:Bs) (k:Int):Int:=bif decide (eX d n k=0)&&s.contains n then 7 else eX d n k
def l6 (d:ak) (t:ah):List Bs->List Bs->List Z5
 | _,[]=>[]
 | s,n::r=>(bif !decide (gB d s n 2=0) then [Z5.mk (gB d s n 2) t.aa] else mV d t (bl d.aj.l n).1.aq.l)++l6 d t (s++[n]) r
def mW (d:ak) (t:ah):List Bs->List Z8->List Z5
 | _,[]=>[]
 | s,m::r=>b_ (!decide (gB d s m.aa 1=0)) (gB d s m.aa 1) (t.aa++[46]++m.aa)++mW d t (s++[m.aa]) r
def pV (d:ak) (t:ah):List Z5:=bif decide (t.ai=1) then l6 d t [] t.aM.l else bif decide (t.ai=3) then mW d t [] t.ax.l else []
def k8 (d:ak):List Z5:=d.aj.l.flatMap (pV d)
def pW:Nat:=4000000000000
theorem EN {s r:Sl Z5}(h:s.l.length+r.l.length<=pW):bh 24 s r=some ⟨s.nl&&r.l.isEmpty,s.l++r.l⟩:=by
 unfold pW at h;unfold bh; rw [if_pos]; unfold cA; omega
def FA (o:Option Z0) (c:Z0) (X:List Z5):Prop:=c.ep.l.length+X.length<=pW->∃nl,o=some (Z0.mk c.Fd ⟨nl,c.ep.l++X⟩)
theorem FA.pure (c:Z0):FA (some c) c []:=fun _=>⟨c.ep.nl,by simp⟩
theorem FA.bind {o:Option Z0}{f:Z0->Option Z0}{c:Z0}{X Y:List Z5}(h:FA o c X) (b:∀c1,c1.Fd=c.Fd->FA (f c1) c1 Y):FA (o.bind f) c (X++Y):=fun g=>by
 simp only [List.length_append] at g;obtain⟨j,k⟩:=h (by omega);obtain⟨m,p⟩:=b (Z0.mk c.Fd ⟨j,c.ep.l++X⟩) rfl (by simp only [List.length_append]; omega);exact⟨m,by rw [k,oB,p]; simp only [List.append_assoc]⟩
theorem FA.id {o:Option Z0}{c:Z0}{X:List Z5}(h:FA o c X):FA (o.bind fun x=>some x) c X:=fun b=>by
 obtain⟨f,g⟩:=h b; exact⟨f,by rw [g]; rfl⟩
theorem zA (c:Z0) (e:Int) (at_:Bs):FA (k9 c e at_) c [Z5.mk e at_]:=fun b=>by
 unfold k9;rw [EN (by simpa using b)];exact⟨_,rfl⟩
theorem JZ {p n:Bs}(l:p.length<=10000000) (hn:n.length<=1048576) (c:Z0) (b:Bool):FA (bif b then((a_ p ([40]:Bs)).bind fun f=>(a_ f n).bind fun g=>(a_ g ([41]:Bs)).bind fun j=>(k9 c (22:Int) j).bind fun k=>some k) else some c) c (mS p n b):=by
 cases b
 ·exact FA.pure c
 ·rw [cond_true,cI (by simp; omega),oB,cI (by simp; omega),oB,cI (by simp; omega),oB];exact(zA c 22 _).id
theorem J1 {p:Bs}(b:p.length<=10000000) (y:Z6×Bool):∀(l:List Z7) (c:Z0),(∀a∈l,a.aa.length<=1048576)->FA (mX p y l c) c (lZ p y.1 l)
 | [],c,_=>by rw [mX]; exact .pure c
 | a::r,c,h=>by
  rw [mX];simp only [on,zl,SB];have e:lZ p y.1 (a::r)=mS p a.aa (!(dw y.1.ay.l a.aa).2||!k7 a.av (dw y.1.ay.l a.aa).1.av)++lZ p y.1 r:=rfl;rw [e];have key:∀v:Bool,(!(dw y.1.ay.l a.aa).2||!v)=(!(dw y.1.ay.l a.aa).2||!k7 a.av (dw y.1.ay.l a.aa).1.av)->FA (Option.bind (bif ((!(dw y.1.ay.l a.aa).2)||(!v)) then((a_ p ([40]:Bs)).bind fun f=>(a_ f a.aa).bind fun g=>(a_ g ([41]:Bs)).bind fun j=>(k9 c (22:Int) j).bind fun k=>some k) else(some c)) fun m=>mX p y r m) c (mS p a.aa (!(dw y.1.ay.l a.aa).2||!k7 a.av (dw y.1.ay.l a.aa).1.av)++lZ p y.1 r):=by
   intro v hv;rw [hv];exact FA.bind (JZ b (h a (.head _)) c _) fun c1 _=>J1 b y r c1 fun x hx=>h x (.tail _ hx)
  cases hk:(dw y.1.ay.l a.aa).2
  ·rw [hk] at key;exact key false rfl
  ·rw [hk] at key;exact key _ rfl
theorem J2 (x:Z6){p:Bs}(b:p.length<=10000000):∀(l:List Z7) (c:Z0),(∀a∈l,a.aa.length<=1048576)->FA (mY x p l c) c (oo p x l)
 | [],c,_=>by rw [mY]; exact .pure c
 | a::r,c,h=>by
  rw [mY];simp only [on,zl,wW];have e:oo p x (a::r)=mS p a.aa ((!(dw x.ay.l a.aa).2&&eZ a.av.aH.l)&&!a.ck)++oo p x r:=rfl;have f:((!(dw x.ay.l a.aa).2)&&(bif (!(dw x.ay.l a.aa).2) then eZ a.av.aH.l else false))=(!(dw x.ay.l a.aa).2&&eZ a.av.aH.l):=by cases (dw x.ay.l a.aa).2<;>rfl
  rw [e,f];exact FA.bind (JZ b (h a (.head _)) c _) fun c1 _=>J2 x b r c1 fun x hx=>h x (.tail _ hx)
theorem J3 (l:List Z6) (s:Bs):(eS l s).1=Z6.zero\/(eS l s).1∈l:=by
 unfold eS;cases h:l.find? (fun t=>t.aa==s) with
 | none=>exact .inl rfl
 | some t=>exact .inr (List.mem_of_find?_eq_some h)
def pX (f:Z6):Prop:=f.aa.length<=1048576/\(∀a∈f.ay.l,a.aa.length<=1048576)/\dZ f.av.aH
theorem SD:pX Z6.zero:=⟨Nat.zero_le _,fun _ h=>(by cases h),⟨fun _=>rfl,Nat.zero_le _⟩⟩
theorem J4 {l:List Z6}(h:∀f∈l,pX f) (s:Bs):pX (eS l s).1:=by
 rcases J3 l s with e|e
 ·rw [e]; exact SD
 ·exact h _ e
theorem J5 {d:ak}(b:d.aj.l.length<=1048576){t:ah}(ht:t.aa.length<=1048576) (g:∀f∈t.aq.l,pX f):∀(l:List Z6) (c:Z0),c.Fd=d->(∀f∈l,pX f)->FA (pY t l c) c (mV d t l)
 | [],c,_,_=>by rw [pY]; exact .pure c
 | x::r,c,hc,h=>by
  obtain⟨s,j,k⟩:=h x (.head _);obtain⟨u,m,p⟩:=J4 g x.aa;rw [pY];simp only [on,RR];rw [cI (by simp; omega),oB,cI (by simp; omega),oB];have e:mV d t (x::r)=mU d t x++mV d t r:=rfl;rw [e];refine FA.bind ?_ fun c1 h1=>J5 b ht g r c1 (h1.trans hc) fun f q=>h f (.tail _ q);unfold mU;cases (eS t.aq.l x.aa).2
  ·exact(zA c 20 _).id
  ·simp only [Bool.not_true,cond_false];rw [hc,(BN b p k).1,oB];refine FA.bind ?_ fun c1 _=>FA.bind (J1 (by simp; omega) _ _ c1 j) fun c2 _=>(J2 x (by simp; omega) _ c2 m).id;cases lY d (eS t.aq.l x.aa).1.av x.av
   ·exact(zA c 10 _).id
   ·exact .pure c
theorem J6 (c:Z0) (n:Bs) (k:Int):xd c n k=eX c.Fd n k:=by
 unfold xd eX;simp only [on,kf];cases (bl c.Fd.aj.l n).2<;>cases cV n<;>rfl
def k_ (t:ah):Prop:=t.aa.length<=1048576/\(∀f∈t.aq.l,pX f)/\∀m∈t.ax.l,m.aa.length<=1048576
theorem SE:k_ ah.zero:=⟨Nat.zero_le _,fun _ h=>(by cases h),fun _ h=>(by cases h)⟩
theorem J7 {d:ak}(h:∀t∈d.aj.l,k_ t) (s:Bs):k_ (bl d.aj.l s).1:=by
 rcases zj d.aj.l s with e|e
 ·rw [e]; exact SE
 ·exact h _ e
theorem J8 {d:ak}(b:d.aj.l.length<=1048576) (hk:∀t∈d.aj.l,k_ t){t:ah}(ht:k_ t):∀(l:List Bs) (i:Nat) (c:Z0),t.aM.l.drop i=l->c.Fd=d->FA (oq t l i c) c (l6 d t (t.aM.l.take i) l)
 | [],i,c,_,_=>by rw [oq]; exact .pure c
 | n::r,i,c,f,hc=>by
  rw [oq,l6];simp only [on,J6,ED,kf,hc];have e:(bif ((decide (eX d n 2=(0:Int)))&&(bif (decide (eX d n 2=(0:Int))) then(bif (decide (eX d n 2=(0:Int))) then(⟨t.aM.nl,t.aM.l.take i⟩:Sl Bs) else(Sl.nil:Sl Bs)).l.contains n else false)) then((7:Int)) else(eX d n 2))=gB d (t.aM.l.take i) n 2:=by
   unfold gB;cases decide (eX d n 2=(0:Int))<;>rfl
  rw [e,<- tD f];refine FA.bind ?_ fun c1 h1=>J8 b hk ht r (i+1) c1 (mL f).1 (h1.trans hc);cases decide (gB d (t.aM.l.take i) n 2=0)
  ·exact(zA c _ _).id
  ·simp only [Bool.not_true,cond_false];refine FA.id ?_;unfold zB;exact(J5 b ht.1 ht.2.1 _ c hc (J7 hk n).2.1).id
theorem J9 (n:Bs):∀(l:List Z8) (i:Nat),(match ot (fun b=>b.aa==n) l i with|.inl _=>false|.inr e=>decide ((0:Int)<=e))=(l.map Z8.aa).contains n
 | [],i=>rfl
 | a::r,i=>by
  rw [ot,tC,List.any_cons,<- tC,<- J9 n r (i+1)];simp only [on];cases a.aa==n
  ·rfl
  ·simp
theorem SF (s:Sl Z8) (n:Bs) (m:Z8) (hm:m.aa=n):tI s (fun b=>vf b m)=(s.l.map Z8.aa).contains n:=by
 rw [<- J9 n s.l 0];unfold tI zC;have e:(fun b:Z8=>vf b m)=fun b=>b.aa==n:=by funext b; unfold vf; rw [hm]
 rw [e];simp only [on];cases ot (fun b=>b.aa==n) s.l 0<;>rfl
theorem J_ {d:ak}{t:ah}(ht:k_ t):∀(l:List Z8) (i:Nat) (c:Z0),t.ax.l.drop i=l->c.Fd=d->(∀m∈l,m.aa.length<=1048576)->FA (ou t l i c) c (mW d t ((t.ax.l.take i).map Z8.aa) l)
 | [],i,c,_,_,_=>by rw [ou]; exact .pure c
 | m::r,i,c,b,hc,hm=>by
  have h1:=ht.1; have j:=hm m (.head _);rw [ou,mW];simp only [on,J6,hc,SF _ m.aa m rfl];have e:(bif ((decide (eX d m.aa 1=(0:Int)))&&(bif (decide (eX d m.aa 1=(0:Int))) then((bif (decide (eX d m.aa 1=(0:Int))) then(⟨t.ax.nl,t.ax.l.take i⟩:Sl Z8) else(Sl.nil:Sl Z8)).l.map Z8.aa).contains m.aa else false)) then((7:Int)) else(eX d m.aa 1))=gB d ((t.ax.l.take i).map Z8.aa) m.aa 1:=by
   unfold gB;cases decide (eX d m.aa 1=(0:Int))<;>rfl
  have f:(t.ax.l.take (i+1)).map Z8.aa=(t.ax.l.take i).map Z8.aa++[m.aa]:=by rw [tD b,List.map_append]; rfl
  rw [e,<- f];refine FA.bind ?_ fun c1 g=>J_ ht r (i+1) c1 (mL b).1 (g.trans hc) fun x hx=>hm x (.tail _ hx);cases decide (gB d ((t.ax.l.take i).map Z8.aa) m.aa 1=0)
  ·simp only [Bool.not_false,cond_true];rw [cI (by simp; omega),oB,cI (by simp; omega),oB];exact(zA c _ _).id
  ·exact .pure c
theorem J' {d:ak}(b:d.aj.l.length<=1048576) (hk:∀t∈d.aj.l,k_ t):∀(l:List ah) (c:Z0),(∀t∈l,t∈d.aj.l)->c.Fd=d->FA (pZ l c) c (l.flatMap (pV d))
 | [],c,_,_=>by rw [pZ]; exact .pure c
 | t::r,c,hm,hc=>by
  have ht:=hk t (hm t (.head _));rw [pZ,List.flatMap_cons];simp only [on];refine FA.bind ?_ fun c1 f=>J' b hk r c1 (fun x hx=>hm x (.tail _ hx)) (f.trans hc);unfold pV;cases decide (t.ai=(1:Int))
  ·simp only [cond_false];cases decide (t.ai=(3:Int))
   ·exact .pure c
   ·simp only [cond_true];exact(J_ ht t.ax.l 0 c rfl hc ht.2.2).id
  ·simp only [cond_true];refine FA.id ?_;unfold BO;exact(J8 b hk ht t.aM.l 0 c rfl hc).id
theorem SG {d:ak}(b:d.aj.l.length<=1048576) (hk:∀t∈d.aj.l,k_ t) (f:(k8 d).length<=pW):∃nl,zD d=some ⟨nl,k8 d⟩:=by
 obtain⟨nl,e⟩:=J' b hk d.aj.l (Z0.mk d Sl.nil) (fun _ h=>h) rfl (by show 0+_<=_; unfold k8 at f; omega);unfold zD;rw [e];exact⟨nl,rfl⟩
theorem SJ (s:Bs) (l:List Z7):jM s l=(match l.find? (fun t=>t.aa==s) with|some t=>Sum.inr (t,true)|none=>Sum.inl ()):=by
 induction l with
 | nil=>rfl
 | cons a r b =>
  rw [jM,List.find?_cons];simp only [on,b];cases a.aa==s<;>rfl
theorem BP (t:Sl Z7) (s:Bs):iZ t s=dw t.l s:=by
 unfold iZ dw on;rw [SJ];cases t.l.find? (fun t=>t.aa==s)<;>rfl
theorem SL (s:Bs) (l:List Z6):kP s l=(match l.find? (fun t=>t.aa==s) with|some t=>Sum.inr (t,true)|none=>Sum.inl ()):=by
 induction l with
 | nil=>rfl
 | cons a r b =>
  rw [kP,List.find?_cons];simp only [on,b];cases a.aa==s<;>rfl
theorem SM (t:ah) (s:Bs):nQ t s=eS t.aq.l s:=by
 unfold nQ eS on;rw [SL];cases t.aq.l.find? (fun t=>t.aa==s)<;>rfl
def RF (o:Option (Sl Z5)) (s:Sl Z5) (X:List Z5):Prop:=s.l.length+X.length<=pW->∃nl,o=some ⟨nl,s.l++X⟩
theorem RF.pure (s:Sl Z5):RF (some s) s []:=fun _=>⟨s.nl,by simp⟩
theorem RF.bind {o:Option (Sl Z5)}{f:Sl Z5->Option (Sl Z5)}{s:Sl Z5}{X Y:List Z5}(h:RF o s X) (b:∀s1,RF (f s1) s1 Y):RF (o.bind f) s (X++Y):=fun g=>by
 simp only [List.length_append] at g;obtain⟨j,k⟩:=h (by omega);obtain⟨m,p⟩:=b ⟨j,s.l++X⟩ (by simp only [List.length_append]; omega);exact⟨m,by rw [k,oB,p]; simp only [List.append_assoc]⟩
theorem RF.id {o:Option (Sl Z5)}{s:Sl Z5}{X:List Z5}(h:RF o s X):RF (o.bind fun x=>some x) s X:=fun b=>by
 obtain⟨f,g⟩:=h b; exact⟨f,by rw [g]; rfl⟩
theorem BQ (s:Sl Z5) (e:Int) (at_:Bs):RF (bh 24 s (⟨false,[Z5.mk e at_]⟩:Sl Z5)) s [Z5.mk e at_]:=fun b=>⟨_,EN (by simpa using b)⟩
theorem EO (s:Sl Z5){o:Option (Sl Z5)}{X:List Z5}(h:X.length<=pW->∃nl,o=some ⟨nl,X⟩):RF (o.bind fun x=>bh 24 s x) s X:=fun b=>by
 obtain⟨g,f⟩:=h (by omega);rw [f,oB,EN (by simpa using b)];exact⟨_,rfl⟩
theorem Ka {p n:Bs}(l:p.length<=10000000) (hn:n.length<=1048576) (s:Sl Z5) (b:Bool):RF (bif b then((a_ p ([40]:Bs)).bind fun f=>(a_ f n).bind fun g=>(a_ g ([41]:Bs)).bind fun j=>(bh 24 s (⟨false,[(Z5.mk 22 j)]⟩:Sl Z5)).bind fun k=>some k) else(some s)) s (mS p n b):=by
 cases b
 ·exact RF.pure s
 ·rw [cond_true,cI (by simp; omega),oB,cI (by simp; omega),oB,cI (by simp; omega),oB];exact(BQ s 22 _).id
theorem Kc {p:Bs}(b:p.length<=10000000) (y:Z6×Bool):∀(l:List Z7) (s:Sl Z5),(∀a∈l,a.aa.length<=1048576)->RF (mZ p y l s) s (lZ p y.1 l)
 | [],s,_=>by rw [mZ]; exact .pure s
 | a::r,s,h=>by
  rw [mZ];simp only [on,BP,SC];have e:lZ p y.1 (a::r)=mS p a.aa (!(dw y.1.ay.l a.aa).2||!k7 a.av (dw y.1.ay.l a.aa).1.av)++lZ p y.1 r:=rfl;rw [e];have key:∀v:Bool,(!(dw y.1.ay.l a.aa).2||!v)=(!(dw y.1.ay.l a.aa).2||!k7 a.av (dw y.1.ay.l a.aa).1.av)->RF (Option.bind (bif ((!(dw y.1.ay.l a.aa).2)||(!v)) then((a_ p ([40]:Bs)).bind fun f=>(a_ f a.aa).bind fun g=>(a_ g ([41]:Bs)).bind fun j=>(bh 24 s (⟨false,[(Z5.mk 22 j)]⟩:Sl Z5)).bind fun k=>some k) else(some s)) fun m=>mZ p y r m) s (mS p a.aa (!(dw y.1.ay.l a.aa).2||!k7 a.av (dw y.1.ay.l a.aa).1.av)++lZ p y.1 r):=by
   intro v hv;rw [hv];exact RF.bind (Ka b (h a (.head _)) s _) fun s1=>Kc b y r s1 fun x hx=>h x (.tail _ hx)
  cases hk:(dw y.1.ay.l a.aa).2
  ·rw [hk] at key;exact key false rfl
  ·rw [hk] at key;exact key _ rfl
theorem Ke (x:Z6){p:Bs}(b:p.length<=10000000):∀(l:List Z7) (s:Sl Z5),(∀a∈l,a.aa.length<=1048576)->RF (m_ x p l s) s (oo p x l)
 | [],s,_=>by rw [m_]; exact .pure s
 | a::r,s,h=>by
  rw [m_];simp only [on,BP,w6];have e:oo p x (a::r)=mS p a.aa ((!(dw x.ay.l a.aa).2&&eZ a.av.aH.l)&&!a.ck)++oo p x r:=rfl;have f:(((!(dw x.ay.l a.aa).2)&&(bif (!(dw x.ay.l a.aa).2) then eZ (bif (!(dw x.ay.l a.aa).2) then a else Z7.zero).av.aH.l else false))&&(!(bif ((!(dw x.ay.l a.aa).2)&&(bif (!(dw x.ay.l a.aa).2) then eZ (bif (!(dw x.ay.l a.aa).2) then a else Z7.zero).av.aH.l else false)) then a else Z7.zero).ck))=((!(dw x.ay.l a.aa).2&&eZ a.av.aH.l)&&!a.ck):=by
   cases (dw x.ay.l a.aa).2
   ·simp only [Bool.not_false,Bool.true_and,cond_true];cases eZ a.av.aH.l<;>rfl
   ·rfl
  rw [e,f];exact RF.bind (Ka b (h a (.head _)) s _) fun s1=>Ke x b r s1 fun x hx=>h x (.tail _ hx)
theorem SN {d:ak}(g:d.aj.l.length<=1048576){t:ah}(ht:t.aa.length<=1048576) (j:∀f∈t.aq.l,pX f){x:Z6}(hx:pX x) (b:(mU d t x).length<=pW):∃nl,tJ d t x=some ⟨nl,mU d t x⟩:=by
 obtain⟨u,k,m⟩:=hx;obtain⟨v,p,q⟩:=J4 j x.aa;unfold tJ;simp only [on,SM];rw [cI (by simp; omega),oB,cI (by simp; omega),oB]
 revert b
 unfold mU;cases (eS t.aq.l x.aa).2
 ·exact fun _=>⟨false,rfl⟩
 ·simp only [Bool.not_true,cond_false];intro b;rw [(BN g q m).2,oB];have h1:RF (bif (!lY d (eS t.aq.l x.aa).1.av x.av) then((bh 24 (Sl.nil:Sl Z5) (⟨false,[(Z5.mk 10 (t.aa++[46]++x.aa))]⟩:Sl Z5)).bind fun r=>some r) else(some (Sl.nil:Sl Z5))) (Sl.nil:Sl Z5) (b_ (!lY d (eS t.aq.l x.aa).1.av x.av) 10 (t.aa++[46]++x.aa)):=by
   cases lY d (eS t.aq.l x.aa).1.av x.av
   ·exact(BQ _ 10 _).id
   ·exact .pure _
  exact RF.bind h1 (fun s1=>RF.bind (Kc (by simp; omega) _ _ s1 k) fun s=>(Ke x (by simp; omega) _ s p).id) (by show 0+_<=_; omega)
theorem Kf {d:ak}(j:d.aj.l.length<=1048576){t:ah}(ht:t.aa.length<=1048576) (k:∀f∈t.aq.l,pX f):∀(l:List Z6) (s:Sl Z5),(∀f∈l,pX f)->RF (nc d t l s) s (mV d t l)
 | [],s,_=>by rw [nc]; exact .pure s
 | x::r,s,h=>by
  rw [nc];simp only [on];have e:mV d t (x::r)=mU d t x++mV d t r:=rfl;have m:((tJ d t x).bind fun b=>(bh 24 s b).bind fun g=>nc d t r g)=((tJ d t x).bind fun b=>bh 24 s b).bind fun g=>nc d t r g:=by
   cases tJ d t x<;>rfl
  rw [e,m];exact RF.bind (EO s (SN j ht k (h x (.head _)))) fun s1=>Kf j ht k r s1 fun f p=>h f (.tail _ p)
theorem Kg (d:ak) (n:Bs) (k:Int) (hk:k≠0):wI d n k=eX d n k:=by
 unfold wI eX;simp only [on,ko,show jq n=cV n from rfl];cases b:(bl d.aj.l n).2
 ·rw [vb b];have:decide (ah.zero.ai=k)=false:=dF fun e=>hk e.symm;rw [this];cases cV n<;>rfl
 ·cases cV n<;>rfl
theorem Kh {d:ak}(b:d.aj.l.length<=1048576) (hk:∀t∈d.aj.l,k_ t){t:ah}(ht:k_ t):∀(l:List Bs) (i:Nat) (s:Sl Z5),t.aM.l.drop i=l->RF (ov d t l i s) s (l6 d t (t.aM.l.take i) l)
 | [],i,s,_=>by rw [ov]; exact .pure s
 | n::r,i,s,f=>by
  rw [ov,l6];simp only [on,Kg d n 2 (by decide),EI,ko];have e:(bif ((decide (eX d n 2=(0:Int)))&&(bif (decide (eX d n 2=(0:Int))) then(bif (decide (eX d n 2=(0:Int))) then(⟨t.aM.nl,t.aM.l.take i⟩:Sl Bs) else(Sl.nil:Sl Bs)).l.contains (bif (decide (eX d n 2=(0:Int))) then n else([]:Bs)) else false)) then((7:Int)) else(eX d n 2))=gB d (t.aM.l.take i) n 2:=by
   unfold gB;cases decide (eX d n 2=(0:Int))<;>rfl
  rw [e,<- tD f];refine RF.bind ?_ fun s1=>Kh b hk ht r (i+1) s1 (mL f).1;cases decide (gB d (t.aM.l.take i) n 2=0)
  ·exact(BQ s _ _).id
  ·simp only [Bool.not_true,cond_false];exact(Kf b ht.1 ht.2.1 _ s (J7 hk n).2.1).id
theorem Ki {d:ak}{t:ah}(ht:k_ t):∀(l:List Z8) (i:Nat) (s:Sl Z5),t.ax.l.drop i=l->(∀m∈l,m.aa.length<=1048576)->RF (ow d t l i s) s (mW d t ((t.ax.l.take i).map Z8.aa) l)
 | [],i,s,_,_=>by rw [ow]; exact .pure s
 | m::r,i,s,b,hm=>by
  have h1:=ht.1; have g:=hm m (.head _);rw [ow,mW];simp only [on,Kg d m.aa 1 (by decide),JW,<- tC];have e:(bif ((decide (eX d m.aa 1=(0:Int)))&&(bif (decide (eX d m.aa 1=(0:Int))) then((bif (decide (eX d m.aa 1=(0:Int))) then(⟨t.ax.nl,t.ax.l.take i⟩:Sl Z8) else(Sl.nil:Sl Z8)).l.map Z8.aa).contains m.aa else false)) then((7:Int)) else(eX d m.aa 1))=gB d ((t.ax.l.take i).map Z8.aa) m.aa 1:=by
   unfold gB;cases decide (eX d m.aa 1=(0:Int))<;>rfl
  have f:(t.ax.l.take (i+1)).map Z8.aa=(t.ax.l.take i).map Z8.aa++[m.aa]:=by rw [tD b,List.map_append]; rfl
  rw [e,<- f];refine RF.bind ?_ fun s1=>Ki ht r (i+1) s1 (mL b).1 fun x hx=>hm x (.tail _ hx);cases decide (gB d ((t.ax.l.take i).map Z8.aa) m.aa 1=0)
  ·simp only [Bool.not_false,cond_true];rw [cI (by simp; omega),oB,cI (by simp; omega),oB];exact(BQ s _ _).id
  ·exact .pure s
theorem Kj {d:ak}(f:d.aj.l.length<=1048576) (hk:∀t∈d.aj.l,k_ t):∀(l:List ah) (s:Sl Z5),(∀t∈l,t∈d.aj.l)->RF (p4 d l s) s (l.flatMap (pV d))
 | [],s,_=>by rw [p4]; exact .pure s
 | t::r,s,hm=>by
  have ht:=hk t (hm t (.head _));rw [p4,List.flatMap_cons];simp only [on];refine RF.bind ?_ fun s1=>Kj f hk r s1 fun x hx=>hm x (.tail _ hx);have g:∀o:Option (Sl Z5),(o.bind fun b=>(bh 24 s b).bind fun j=>some j)=(o.bind fun b=>bh 24 s b).bind fun x=>some x:=fun o=>by cases o<;>rfl
  unfold pV;cases decide (t.ai=(1:Int))
  ·simp only [cond_false];cases decide (t.ai=(3:Int))
   ·exact .pure s
   ·simp only [cond_true];rw [g];refine(EO s fun k=>?_).id;obtain⟨nl,e⟩:=Ki (d:=d) ht t.ax.l 0 (Sl.nil:Sl Z5) rfl ht.2.2 (by show 0+_<=_; simp only [List.take_zero,List.map_nil]; omega);unfold BR;rw [e];exact⟨nl,rfl⟩
  ·simp only [cond_true];rw [g];refine(EO s fun k=>?_).id;obtain⟨nl,e⟩:=Kh f hk ht t.aM.l 0 (Sl.nil:Sl Z5) rfl (by show 0+_<=_; simp only [List.take_zero]; omega);unfold BT;rw [e];exact⟨nl,rfl⟩
theorem SO {d:ak}(b:d.aj.l.length<=1048576) (hk:∀t∈d.aj.l,k_ t) (f:(k8 d).length<=pW):∃nl,zF d=some ⟨nl,k8 d⟩:=by
 obtain⟨nl,e⟩:=Kj b hk d.aj.l (Sl.nil:Sl Z5) (fun _ h=>h) (by show 0+_<=_; unfold k8 at f; omega);unfold zF;rw [e];exact⟨nl,rfl⟩
theorem Kk (p n:Bs) (b:Bool):(mS p n b).length<=1:=by unfold mS b_; cases b<;>simp
theorem qX {α β:Type}{f:α->List β}{g:α->Nat}(h:∀x,(f x).length<=g x):∀l:List α,(l.flatMap f).length<=(l.map g).sum
 | []=>Nat.le_refl _
 | a::r=>by
  rw [List.flatMap_cons,List.length_append,List.map_cons,List.sum_cons];have:=h a; have:=qX h r; omega
theorem EP {α:Type}(l:List α):(l.map fun _=>1).sum=l.length:=by
 induction l with
 | nil=>rfl
 | cons a r b=>simp only [List.map_cons,List.sum_cons,List.length_cons,b]; omega
theorem Kl (p:Bs) (y:Z6) (l:List Z7):(lZ p y l).length<=l.length/\(oo p y l).length<=l.length:=by
 rw [<- EP l];exact⟨qX (fun _=>Kk _ _ _) l,qX (fun _=>Kk _ _ _) l⟩
theorem EQ (f:Z6):f.ay.l.length+1<=f.sz:=by
 have:=f.bt; have:=Sl.iY (f:=Z7.sz) f.ay Z7.pos; omega
theorem SP {t:ah}(n:Bs):(eS t.aq.l n).1.ay.l.length<=t.sz:=by
 rcases J3 t.aq.l n with e|e
 ·rw [e]; exact Nat.zero_le _
 ·have:=EQ (eS t.aq.l n).1; have:=Sl.de (f:=Z6.sz) e; have:=t.bt; omega
theorem SQ (d:ak) (t:ah) (x:Z6):(mU d t x).length<=x.sz+t.sz:=by
 have h1:=EQ x;unfold mU;cases (eS t.aq.l x.aa).2
 ·simp only [Bool.not_false,cond_true,List.length_cons,List.length_nil]; omega
 ·simp only [Bool.not_true,cond_false,List.length_append];have b:=(Kl (t.aa++[46]++x.aa) (eS t.aq.l x.aa).1 x.ay.l).1;have f:=(Kl (t.aa++[46]++x.aa) x (eS t.aq.l x.aa).1.ay.l).2;have g:=SP (t:=t) x.aa;have j:(b_ (!lY d (eS t.aq.l x.aa).1.av x.av) 10 (t.aa++[46]++x.aa)).length<=1:=by unfold b_; cases (!lY d (eS t.aq.l x.aa).1.av x.av)<;>simp
  omega
theorem SR {α:Type}(g:α->Nat) (c:Nat) (l:List α):(l.map fun x=>g x+c).sum=(l.map g).sum+l.length*c:=by
 induction l with
 | nil=>simp
 | cons a r b=>simp only [List.map_cons,List.sum_cons,List.length_cons,b,Nat.succ_mul]; omega
theorem SS (d:ak) (t f:ah):(mV d t f.aq.l).length<=f.sz*(1+t.sz):=by
 have h1:=qX (SQ d t) f.aq.l;rw [SR] at h1;have b:=f.bt;have g:=Sl.iY (f:=Z6.sz) f.aq Z6.pos;have j:Sl.sz Z6.sz f.aq=1+(f.aq.l.map Z6.sz).sum:=rfl;have k:f.aq.l.length*t.sz<=f.sz*t.sz:=Nat.mul_le_mul_right _ (by omega);rw [Nat.mul_add,Nat.mul_one];unfold mV;omega
noncomputable def l7 (l:List ah) (n:Bs):Nat:=bif (bl l n).2 then(bl l n).1.sz else 0
theorem SU (a:ah) (r:List ah) (n:Bs):l7 (a::r) n=if a.aa=n then a.sz else l7 r n:=by
 unfold l7 bl;rw [List.find?_cons];by_cases h:a.aa=n
 ·rw [show (a.aa==n)=true by simpa using h,if_pos h]; rfl
 ·rw [show (a.aa==n)=false by simpa using h,if_neg h]
theorem Km (s:Bs) (c:Nat):∀g:List Bs,g.Nodup->(g.map fun n=>if s=n then c else 0).sum<=c
 | [],_=>Nat.zero_le _
 | n::r,h=>by
  obtain⟨h1,j⟩:=List.nodup_cons.1 h;rw [List.map_cons,List.sum_cons];by_cases f:s=n
  ·have h0:∀l:List Bs,n∉l->(l.map fun n=>if s=n then c else 0).sum=0:=fun l hl=>by
    induction l with
    | nil=>rfl
    | cons b q k =>
     rw [List.map_cons,List.sum_cons,if_neg (fun e=>hl (by rw [<- f,e]; exact .head _)),k (fun hq=>hl (.tail _ hq))]
   rw [if_pos f,h0 r h1]; omega
  ·rw [if_neg f]; have:=Km s c r j; omega
theorem Kn:∀(l:List ah) (f:List Bs),f.Nodup->(f.map (l7 l)).sum<=(l.map ah.sz).sum
 | [],f,_=>by
  have:∀q:List Bs,(q.map (l7 [])).sum=0:=fun q=>by
   induction q with
   | nil=>rfl
   | cons b q g=>rw [List.map_cons,List.sum_cons,g]; rfl
  rw [this]; exact Nat.zero_le _
 | a::r,f,h=>by
  have h1:=Km a.aa a.sz f h;have k:=Kn r f h;have j:∀q:List Bs,(q.map (l7 (a::r))).sum<=(q.map fun n=>if a.aa=n then a.sz else 0).sum+(q.map (l7 r)).sum:=fun q=>by
   induction q with
   | nil=>exact Nat.le_refl _
   | cons b q g =>
    simp only [List.map_cons,List.sum_cons];rw [SU]
    split<;>omega
  have:=j f;rw [List.map_cons,List.sum_cons]; omega
def ox:List Bs->List Bs->List Bs
 | _,[]=>[]
 | s,n::r=>bif s.contains n then ox (s++[n]) r else n::ox (s++[n]) r
theorem ER:∀(l s:List Bs) (n:Bs),n∈ox s l->n∉s
 | [],_,_,h=>by cases h
 | a::r,s,n,h=>by
  rw [ox] at h;cases hc:s.contains a
  ·rw [hc,cond_false] at h;rcases List.mem_cons.1 h with rfl|h
   ·simpa using hc
   ·have:=ER r (s++[a]) n h;exact fun hn=>this (by simp [hn])
  ·rw [hc,cond_true] at h;have:=ER r (s++[a]) n h;exact fun hn=>this (by simp [hn])
theorem ES:∀(l s:List Bs),(ox s l).Nodup
 | [],_=>List.nodup_nil
 | a::r,s=>by
  rw [ox];cases s.contains a
  ·rw [cond_false,List.nodup_cons];exact⟨fun h=>ER r (s++[a]) a h (by simp),ES r _⟩
  ·rw [cond_true]; exact ES r _
theorem Ko (d:ak) (t:ah):∀(l s:List Bs),(l6 d t s l).length<=l.length+((ox s l).map (l7 d.aj.l)).sum*(1+t.sz)
 | [],s=>by simp [l6]
 | n::r,s=>by
  have g:=Ko d t r (s++[n]);rw [l6,List.length_append,ox];cases he:decide (gB d s n 2=0)
  ·simp only [Bool.not_false,cond_true,List.length_cons,List.length_nil];cases s.contains n
   ·simp only [cond_false,List.map_cons,List.sum_cons];have:((ox (s++[n]) r).map (l7 d.aj.l)).sum*(1+t.sz)<=(l7 d.aj.l n+((ox (s++[n]) r).map (l7 d.aj.l)).sum)*(1+t.sz):=Nat.mul_le_mul_right _ (by omega);omega
   ·simp only [cond_true]; omega
  ·have he:=oD he;have hc:s.contains n=false:=by
    cases hc:s.contains n
    ·rfl
    ·unfold gB at he;rw [hc,Bool.and_true] at he;cases hz:decide (eX d n 2=0)
     ·rw [hz,cond_false] at he; rw [decide_eq_false_iff_not] at hz; exact absurd he hz
     ·rw [hz,cond_true] at he; cases he
   have f:(bl d.aj.l n).2=true:=by
    unfold gB at he;rw [hc,Bool.and_false,cond_false] at he;unfold eX at he;cases f:(bl d.aj.l n).2
    ·rw [f] at he;cases b:cV n
     ·rw [b] at he; cases he
     ·rw [b] at he; cases he
    ·rfl
   have b:l7 d.aj.l n=(bl d.aj.l n).1.sz:=by unfold l7; rw [f]; rfl
   have h1:=SS d t (bl d.aj.l n).1;rw [hc];simp only [Bool.not_true,cond_false,List.map_cons,List.sum_cons,List.length_cons,Nat.add_mul];rw [b]; omega
theorem Kp (d:ak) (t:ah):∀(l:List Z8) (s:List Bs),(mW d t s l).length<=l.length
 | [],s=>Nat.le_refl _
 | m::r,s=>by
  have b:=Kp d t r (s++[m.aa]);rw [mW,List.length_append,List.length_cons];have:(b_ (!decide (gB d s m.aa 1=0)) (gB d s m.aa 1) (t.aa++[46]++m.aa)).length<=1:=by unfold b_; cases (!decide (gB d s m.aa 1=0))<;>simp
  omega
theorem SV (d:ak) (t:ah):(pV d t).length<=t.sz+(d.aj.l.map ah.sz).sum*(1+t.sz):=by
 have h0:=t.bt;have h1:=Sl.iY (f:=Bs.sz) t.aM (fun s=>Nat.succ_le_succ (Nat.zero_le _));have g:=Sl.iY (f:=Z8.sz) t.ax Z8.pos;unfold pV;cases decide (t.ai=1)
 ·cases decide (t.ai=3)
  ·exact Nat.zero_le _
  ·simp only [cond_false,cond_true];have:=Kp d t t.ax.l []; omega
 ·simp only [cond_true];have j:=Ko d t t.aM.l [];have b:=Kn d.aj.l (ox [] t.aM.l) (ES _ _);have k:=Nat.mul_le_mul_right (1+t.sz) b;omega
theorem Kq (S:Nat):∀l:List ah,(l.map fun t=>t.sz+S*(1+t.sz)).sum=(l.map ah.sz).sum+S*(l.length+(l.map ah.sz).sum)
 | []=>rfl
 | a::r=>by
  rw [List.map_cons,List.sum_cons,Kq S r,List.map_cons,List.sum_cons,List.length_cons];simp only [Nat.mul_add,Nat.mul_one];omega
theorem SX {d:ak}(j:d.sz<=1048576):(k8 d).length<=3300000000000:=by
 have h0:=d.bt;have h1:Sl.sz ah.sz d.aj=1+(d.aj.l.map ah.sz).sum:=rfl;have k:=Sl.iY (f:=ah.sz) d.aj ah.pos;have b:=qX (SV d) d.aj.l;rw [Kq] at b;have g:(d.aj.l.map ah.sz).sum<=1048576:=by omega
 have m:(d.aj.l.map ah.sz).sum*(d.aj.l.length+(d.aj.l.map ah.sz).sum)<=1048576*(1048576+1048576):=Nat.mul_le_mul g (by omega);unfold k8;omega
theorem BU {d e:ak}(f:d.aj.l.length<=1048576) (he:e.aj.l.length<=1048576):∀(m:Nat) (a b:aL),a.aH.l.length<=1048576->b.aH.l.length<=1048576->jr e b.aa a.aa=jr d b.aa a.aa->a.aH.l.length+b.aH.l.length<m ->
  ∃v,kZ m d a b=some v/\kZ m e a b=some v
 | 0,_,_,_,_,_,h=>by omega
 | m+1,a,b,q,j,g,hm=>by
  rw [kZ,kZ];simp only [on,w6,vc q,vc j,zu q,zu j,oB];have w:=zp a.aH;have y:=zp b.aH;cases t:eZ b.aH.l
  ·simp only [cond_false];cases k:eZ a.aH.l
   ·simp only [cond_false];have last:∃v,(aZ (!((a.aa==b.aa))) (tH d a.aa b.aa) false fun p=>some (((a.aa==b.aa))||p))=some v/\(aZ (!((a.aa==b.aa))) (tH e a.aa b.aa) false fun p=>some (((a.aa==b.aa))||p))=some v:=by
     rw [EL f,EL he,g];cases (a.aa==b.aa)<;>exact⟨_,rfl,rfl⟩
    cases u:gX (cr a.aH).l
    ·cases r:gX (cr b.aH).l
     ·exact last
     ·exact⟨_,rfl,rfl⟩
    ·cases r:gX (cr b.aH).l
     ·exact⟨_,rfl,rfl⟩
     ·have h1:=BA u;have s:=BA r;have z:((cr a.aH).l.drop 1).length<a.aH.l.length:=h1;have B:((cr b.aH).l.drop 1).length<b.aH.l.length:=s;obtain⟨v,hv,hw⟩:=BU f he m ⟨a.aa,⟨false,(cr a.aH).l.drop 1⟩⟩ ⟨b.aa,⟨false,(cr b.aH).l.drop 1⟩⟩ (by show ((cr a.aH).l.drop 1).length<=_; omega) (by show ((cr b.aH).l.drop 1).length<=_; omega) g (by show ((cr a.aH).l.drop 1).length+((cr b.aH).l.drop 1).length<m; omega)
      simp only [cond_true,Bool.or_self,Bool.and_self,aZ,if_true,hv,hw,oB];exact⟨_,rfl,rfl⟩
   ·have h1:(cr a.aH).l.length<a.aH.l.length:=w8 k;obtain⟨v,hv,hw⟩:=BU f he m ⟨a.aa,⟨false,(cr a.aH).l⟩⟩ b (by show (cr a.aH).l.length<=_; omega) j g (by show (cr a.aH).l.length+b.aH.l.length<m; omega);simp only [cond_true,hv,hw];exact⟨_,rfl,rfl⟩
  ·simp only [cond_true];cases k:eZ a.aH.l
   ·exact⟨_,rfl,rfl⟩
   ·have h1:(cr a.aH).l.length<a.aH.l.length:=w8 k;have s:(cr b.aH).l.length<b.aH.l.length:=w8 t;obtain⟨v,hv,hw⟩:=BU f he m ⟨a.aa,⟨false,(cr a.aH).l⟩⟩ ⟨b.aa,⟨false,(cr b.aH).l⟩⟩ (by show (cr a.aH).l.length<=_; omega) (by show (cr b.aH).l.length<=_; omega) g (by show (cr a.aH).l.length+(cr b.aH).l.length<m; omega);simp only [aZ,if_true,hv,hw,oB]
    exact⟨_,rfl,rfl⟩
def vg (a b:aL):Prop:=a.aa=b.aa/\a.aH.l=b.aH.l
theorem SY {t:aL}(h:t.aH.l.length<=1048576):∃x,mQ t=some (x,gX (cr t.aH).l)/\(gX (cr t.aH).l=true->vg (uZ t) x):=by
 unfold mQ;rw [JN h];simp only [oB];cases hl:gX (cr t.aH).l with
 | false=>exact⟨_,rfl,fun h=>by cases h⟩
 | true =>
  have:=zp t.aH;simp only [Bool.not_true,cond_false];rw [vc h];simp only [oB];rw [EE (show (cr t.aH).l.length<=1048576 by omega) (Bz hl)];exact⟨_,rfl,fun _=>⟨rfl,rfl⟩⟩
theorem vg.lS {a b:aL}(h:vg a b):(cr a.aH).l=(cr b.aH).l:=by
 unfold cr; rw [h.2]; cases eZ b.aH.l<;>simp [h.2]
theorem SZ (l:List ah) (s:Bs):pu s l=lT s l:=by
 induction l with
 | nil=>rfl
 | cons a r b=>rw [pu,lT,b]; rfl
theorem ET (d:ak) (s:Bs):eR d s=bl d.aj.l s:=by
 rw [<- kf]; unfold eR fA; rw [SZ]; all_goals rfl
theorem S0 (l:List Z7) (s:Bs):jM s l=pN s l:=by
 induction l with
 | nil=>rfl
 | cons a r b=>rw [jM,pN,b]; rfl
theorem S3 (t:Sl Z7) (s:Bs):iZ t s=dw t.l s:=by
 rw [<- zl]; unfold iZ pO; rw [S0]; all_goals rfl
theorem EU (l:List ah) (s:Bs) (h:(bl l s).2=false):(bl l s).1=ah.zero:=by
 unfold bl at *;cases e:l.find? (fun t=>t.aa==s) with
 | none=>rfl
 | some t=>rw [e] at h; cases h
theorem S4 (d:ak) (s:Bs):sI d s=qU d s:=by
 unfold sI qU pR;simp only [on,ET,kf];show (cV s||_)=_;cases h:(bl d.aj.l s).2 with
 | true=>cases cV s<;>simp
 | false=>rw [EU _ _ h]; cases cV s<;>simp [ah.zero]
theorem EV (d:ak) (s:Bs):jN d s=ja d s:=by
 unfold jN ja pR;simp only [on,ET,kf,S4];cases h:(bl d.aj.l s).2 with
 | true=>cases qU d s<;>simp
 | false=>rw [EU _ _ h]; cases qU d s<;>simp [ah.zero]
theorem Kr {d:ak}{s:Bs}(h:ja d s=true) (f:cV s=false):(bl d.aj.l s).1.ai=4\/(bl d.aj.l s).1.ai=5:=by
 unfold ja qU pR on at h;simp only [f,kf,Bool.not_false,cond_true,Bool.false_or] at h;by_cases b:(bl d.aj.l s).1.ai=4
 ·exact .inl b
 ·simp [b] at h; exact .inr h
def bB:Nat:=549755813888
def Rl:Nat->Z9->Z9->Prop
 | 0,_,_=>False
 | n+1,v,w=>v.ai=w.ai/\(v.bA=w.bA /\ -9223372036854775808<=v.bA/\v.bA<=9223372036854775807)/\v.bp=w.bp/\v.aR.l=w.aR.l/\(v.aR.nl=true->v.aR.l=[])/\v.aR.l.length<=bB/\v.aB.l.length<=bB /\
  (v.ai=3\/v.ai=4->v.bA=0/\v.aB.l=[]/\v.aR.l=[])/\aW (Rl n) v.aB.l w.aB.l
theorem Rl.mono:∀{n m:Nat}{v w:Z9},n<=m->Rl n v w->Rl m v w
 | 0,_,_,_,_,h=>h.elim
 | n+1,0,_,_,hn,_=>by omega
 | n+1,m+1,v,w,hn,⟨a,b,c,d,e,f,g,i,k⟩=>⟨a,b,c,d,e,f,g,i,k.imp fun _ _ h=>Rl.mono (by omega) h⟩
theorem tK {α:Type}{s r:Sl α}(h:s.l.length+r.l.length<=1099511627776):bh 80 s r=some ⟨s.nl&&r.l.isEmpty,s.l++r.l⟩:=by
 unfold bh; rw [if_pos];have:(s.l.length+r.l.length)*80<=1099511627776*80:=Nat.mul_le_mul_right _ h;unfold cA; omega
theorem S5 {s:Sl Bs}(h:s.nl=true->s.l=[]) (hl:s.l.length<=bB):∃r,qY s=some r/\r.l=s.l/\(r.nl=true->r.l=[]):=by
 unfold qY;unfold bB at hl;cases hn:s.nl with
 | true=>exact⟨Sl.nil,rfl,(h hn).symm,fun _=>rfl⟩
 | false=>rw [cond_false,yS (by omega) (by simp; omega)]; exact⟨_,rfl,by simp,fun e=>by simp at e⟩
theorem EW:∀(n:Nat){v w:Z9},Rl n v w->∀m,2*n<=m->∃r,lc m v=some r/\Rl n r w
 | 0,_,_,h,_,_=>h.elim
 | n+1,v,w,⟨h1,E,F,G,H,z,B,I,p⟩,m,hm=>by
  obtain⟨m1,rfl⟩:∃m1,m=m1+1+1:=⟨m-2,by omega⟩;have hl:∀(l l':List Z9) (acc g:List Z9) (s:Sl Z9),aW (Rl n) l l'->aW (Rl n) acc g->s.l=acc->s.l.length+l.length<=bB->∃f:Sl Z9,oy (lc m1) l s=some f/\aW (Rl n) f.l (g++l'):=by
   intro l l' acc g s hl;induction hl generalizing acc g s with
   | nil=>intro q e _; exact⟨s,rfl,by rw [e]; simpa using q⟩
   | @cons a b t t' J ht K =>
    intro q e C;obtain⟨r,hr,L⟩:=EW n J m1 (by omega);rw [oy];simp only [on,hr,oB];simp only [List.length_cons] at C;rw [tK (by unfold bB at C; simp; omega),oB];obtain⟨f,u,j⟩:=K (acc++[r]) (g++[b]) ⟨s.nl&&[r].isEmpty,s.l++[r]⟩ (q.append (.cons L .nil)) (by simp [e]) (by simp; omega);exact⟨f,u,by simpa using j⟩
  obtain⟨f,u,j⟩:=hl v.aB.l w.aB.l [] [] Sl.nil p .nil rfl (by simpa [Sl.nil] using B);obtain⟨k,M,y,N⟩:=S5 H z;rw [lc,xe,u,oB];simp only [on,oB,M];have hlen:=j.length;simp only [List.nil_append] at j hlen;refine⟨_,rfl,h1,E,F, ?_,N, ?_, ?_,fun hk=>?_,j⟩
  ·show k.l=_; rw [y]; exact G
  ·show k.l.length<=_; rw [y]; exact z
  ·show f.l.length<=_; rw [hlen,<- p.length]; exact B
  ·obtain⟨O,P,Q⟩:=I hk;have:f.l=[]:=List.eq_nil_of_length_eq_zero (by rw [hlen,<- p.length,P]; rfl);exact⟨O,this,by show k.l=[]; rw [y]; exact Q⟩
theorem Ks:∀(n:Nat){v w:Z9},Rl n v w->∀m,2*n<=m->∃r,kw m w=some r/\Rl n v r
 | 0,_,_,h,_,_=>h.elim
 | n+1,v,w,⟨h1,C,E,q,F,u,y,G,z⟩,m,hm=>by
  obtain⟨m1,rfl⟩:∃m1,m=m1+1+1:=⟨m-2,by omega⟩;have hl:∀(l l':List Z9) (acc f:List Z9) (s:Sl Z9),aW (Rl n) l l'->aW (Rl n) acc f->s.l=f->s.l.length+l'.length<=bB->∃g:Sl Z9,oz (kw m1) l' s=some g/\aW (Rl n) (acc++l) g.l:=by
   intro l l' acc f s hl;induction hl generalizing acc f s with
   | nil=>intro k e _; exact⟨s,rfl,by rw [e]; simpa using k⟩
   | @cons a b t t' H ht I =>
    intro k e B;obtain⟨r,hr,J⟩:=Ks n H m1 (by omega);rw [oz];simp only [on,hr,oB];simp only [List.length_cons] at B;rw [tK (by unfold bB at B; simp; omega),oB];obtain⟨g,p,j⟩:=I (acc++[a]) (f++[r]) ⟨s.nl&&[r].isEmpty,s.l++[r]⟩ (k.append (.cons J .nil)) (by simp [e]) (by simp; omega);exact⟨g,p,by simpa using j⟩
  obtain⟨g,p,j⟩:=hl v.aB.l w.aB.l [] [] Sl.nil z .nil rfl (by rw [<- z.length]; simpa [Sl.nil] using y);rw [kw,vh,p,oB];simp only [on,oB];rw [yS (by omega) (by rw [<- q]; unfold bB at u; simp; omega),oB];simp only [List.nil_append] at j;exact⟨_,rfl,h1,C,E,(show v.aR.l=[]++w.aR.l by simpa using q),F,u,y,G,j⟩
theorem Kt (d:ak) (va:Z9) (li:Bool) (n f:Int) (hn:0<=n/\n<=4096) :
  (∃e c' k',e≠0/\tL ⟨d,va,li,n⟩ f=some (e,c')/\l8 ⟨d,va,li,n,0⟩ f=some k'/\k'.dh=e) \/
  (f<=24/\n+1<=4096/\tL ⟨d,va,li,n⟩ f=some (0,⟨d,va,li,n+1⟩)/\l8 ⟨d,va,li,n,0⟩ f=some ⟨d,va,li,n+1,0⟩):=by
 have g:cN n (1:Int)=some (n+1):=iL (by omega);unfold tL l8 fq;simp only [on,g,oB];by_cases h1:(24:Int)<f
 ·left
  simp only [h1,decide_true,cond_true,g,oB];by_cases b:(4096:Int)<n+1
  ·exact⟨5,_,_,by omega,rfl,by simp [b]; rfl,rfl⟩
  ·exact⟨5,_,_,by omega,rfl,by simp [b]; rfl,rfl⟩
 ·simp only [h1,decide_false,cond_false,g,oB];by_cases b:(4096:Int)<n+1
  ·left
   exact⟨4,_,_,by omega,by simp [b]; rfl,by simp [b]; rfl,rfl⟩
  ·right
   exact⟨by omega,by omega,by simp [b],by simp [b]⟩
def S6 (n:Nat) (d:ak) (va:Z9) (li:Bool) (v:Z9) (p:Option (Int×Z1)) (q:Option (Z9×Z3)):Prop :=
 (∃e c' x k',e≠0/\p=some (e,c')/\q=some (x,k')/\k'.dh=e)\/(∃m x,0<=m/\m<=4096/\p=some (0,⟨d,va,li,m⟩)/\q=some (x,⟨d,va,li,m,0⟩)/\Rl n v x)
theorem Ku (a2:Int) (k:Z3->Z9->Int->Option (Z9×Z3)) (l:List Z9) (w:Z3) (x:Z9) (h:w.dh≠0):ng a2 k l w x=some (w,x):=by
 cases l with
 | nil=>rfl
 | cons a t=>rw [ng]; simp [h]
theorem Kv:∀(n:Nat){v w:Z9},Rl n v w->∀(m:Nat) (d:ak) (va:Z9) (li:Bool) (c f:Int),n<=m->0<=c/\c<=4096->0<=f/\f<=1099511627776 ->
  S6 n d va li v (nh m ⟨d,va,li,c⟩ v f) (ni m ⟨d,va,li,c,0⟩ w f)
 | 0,_,_,h,_,_,_,_,_,_,_,_,_=>h.elim
 | n+1,v,w,⟨h1,H,O,I,P,J,K,Q,L⟩,m,d,va,li,c,f,hm,hc,hl=>by
  obtain⟨m,rfl⟩:∃m1,m=m1+1:=⟨m-1,by omega⟩;rw [nh,ni];have hk:bh 16 ((Z9.mk w.ai w.bA w.bp true [] Sl.nil).aR) w.aR=some ⟨true&&w.aR.l.isEmpty,[]++w.aR.l⟩:=by
   rw [yS (by omega) (by show ([]:List Bs).length+_<=_; rw [<- I]; unfold bB at J; simp; omega)]; rfl
  rcases Kt d va li c f hc with ⟨e,c',k',he,s,p,M⟩|⟨Z,N,s,p⟩
  ·left
   rw [s,p,oB,oB,hk,oB,Ku _ _ _ _ _ (by rw [M]; exact he)];exact⟨e,c',_,k',he,by simp [he],rfl,M⟩
  ·rw [s,p,oB,oB,hk,oB];have R:∀(l l':List Z9) (acc q:List Z9) (x:Z9) (c:Int),aW (Rl n) l l'->aW (Rl n) acc q->x.aB.l=q->x.aB.l.length+l'.length<=bB->0<=c/\c<=4096 ->
     (∃e c' k' x',e≠0/\qZ f (nh m) l ⟨d,va,li,c⟩=some (Sum.inr (e,c'))/\ng f (ni m) l' ⟨d,va,li,c,0⟩ x=some (k',x')/\k'.dh=e) \/
     (∃c' x',0<=c'/\c'<=4096/\qZ f (nh m) l ⟨d,va,li,c⟩=some (Sum.inl ⟨d,va,li,c'⟩)/\ng f (ni m) l' ⟨d,va,li,c,0⟩ x=some (⟨d,va,li,c',0⟩,x') /\
      x'.ai=x.ai/\x'.bA=x.bA/\x'.bp=x.bp/\x'.aR=x.aR/\aW (Rl n) (acc++l) x'.aB.l):=by
    intro l l' acc q x c S;induction S generalizing acc q x c with
    | nil=>intro u e r hc; right; exact⟨c,x,hc.1,hc.2,rfl,rfl,rfl,rfl,rfl,rfl,by rw [e]; simpa using u⟩
    | @cons a b t t' U ht W =>
     intro u e r hc;simp only [List.length_cons] at r;rw [qZ,ng];simp only [on,iL (show -9223372036854775808<=f+1/\f+1<=9223372036854775807 by omega),oB,decide_true,cond_true];rcases Kv n U m d va li c (f+1) (by omega) hc (by omega) with ⟨X,c',y,k',he,g,j,k⟩|⟨c',y,Y,N,g,j,k⟩
     ·left
      rw [g,j,oB,oB,tK (by unfold bB at r; simp; omega),oB,Ku _ _ _ _ _ (by rw [k]; exact he)];exact⟨X,c',k',_,he,by simp [he],rfl,k⟩
     ·rw [g,j,oB,oB,tK (by unfold bB at r; simp; omega),oB];have:=W (acc++[a]) (q++[y]) (Z9.mk x.ai x.bA x.bp (x.aB.nl&&[y].isEmpty) (x.aB.l++[y]) x.aR) c' (u.append (.cons k .nil)) (by show x.aB.l++[y]=_; rw [e]) (by show (x.aB.l++[y]).length+_<=_; simp; omega) ⟨Y,N⟩;simp only [decide_true,Bool.not_true,cond_false]
      rcases this with ⟨p,c2,k2,z,g0,g1,g2,g3⟩|⟨c2,z,g1,g2,g3,g4,B,C,E,F,G⟩
      ·exact .inl ⟨p,c2,k2,z,g0,g1,g2,g3⟩
      ·exact .inr ⟨c2,z,g1,g2,g3,g4,B,C,E,F,by simpa using G⟩
   rcases R v.aB.l w.aB.l [] [] (Z9.mk w.ai w.bA w.bp true [] ⟨true&&w.aR.l.isEmpty,[]++w.aR.l⟩) (c+1) L .nil rfl (by show ([]:List Z9).length+_<=_; rw [<- L.length]; simpa using K) (by omega) with
    ⟨e,c',k',x',he,g,j,k⟩|⟨c',x',g1,g2,g,j,B,C,E,F,G⟩
   ·left
    refine⟨e,c',x',k',he, ?_, ?_,k⟩
    ·simp only [decide_true,Bool.not_true,cond_false,g,oB]
    ·exact(congrArg (fun o=>Option.bind o _) j)
   ·right
    refine⟨c',x',g1,g2, ?_, ?_,by rw [B]; exact h1,⟨by rw [C]; exact H.1,H.2⟩,by rw [E]; exact O,by rw [F]; show _=[]++w.aR.l; simpa using I,P,J,K,Q,by simpa using G⟩
    ·simp only [decide_true,Bool.not_true,cond_false,g,oB,on]
    ·exact(congrArg (fun o=>Option.bind o _) j)
def zv:Z9:=Z9.mk 0 0 [] true [] Sl.nil
theorem xf:Rl 1 zv zv:=⟨rfl,⟨rfl,by decide,by decide⟩,rfl,rfl,fun _=>rfl,by show 0<=_; omega,by show 0<=_; omega,fun _=>⟨rfl,rfl,rfl⟩,.nil⟩
theorem EX {n:Nat}{v w:Z9}(h:Rl (n+1) v w) (hn:n<=1099511627776) (s:Bs):∃x y b,p5 v s=some (x,b)/\nj w s=some (y,b)/\((b=true/\Rl n x y)\/(b=false/\x=zv/\y=zv)):=by
 obtain⟨h1,N,O,u,P,Q,R,S,m⟩:=h;have hk:∀(l:List Bs) (i:Nat),(∃j:Nat,kr s l i=Sum.inr (j:Int)/\∀w:Z9,kA w s l i=(bif decide (((w.aB.l.length:Nat):Int)<=((j:Nat):Int)) then some (Sum.inr (zv,false)) else((w.aB.l[j]?).bind fun z=>(EY z).bind fun B=>some (Sum.inr (B,true))))) \/
   (kr s l i=Sum.inl ()/\∀w:Z9,kA w s l i=some (Sum.inl ())):=by
  intro l;induction l with
  | nil=>intro i; exact .inr ⟨rfl,fun _=>rfl⟩
  | cons a r C =>
   intro i;rw [kr];simp only [on];cases e:(s==a) with
   | true=>exact .inl ⟨i,rfl,fun w=>by rw [kA]; simp only [on,show (a==s)=true by rw [Bool.beq_comm]; exact e,cond_true]; rfl⟩
   | false =>
    have p:(a==s)=false:=by rw [Bool.beq_comm]; exact e
    rcases C (i+1) with ⟨j,f,g⟩|⟨f,g⟩
    ·exact .inl ⟨j,f,fun w=>by rw [kA]; simp only [on,p,cond_false]; exact g w⟩
    ·exact .inr ⟨f,fun w=>by rw [kA]; simp only [on,p,cond_false]; exact g w⟩
 have q:∀i:Int,oh v.aR s=i->p5 v s=(if v.ai=6/\0<=i/\i<v.aB.l.length then((c_ v.aB.l i).bind fun E=>(q6 E).bind fun F=>some (F,true)) else some (zv,false)):=by
  intro i hi;unfold p5;rw [hi];by_cases f:v.ai=6<;>by_cases g:i<0<;>by_cases G:(v.aB.l.length:Int)<=i<;>simp [on,f,g,G,zv]<;>try omega
  all_goals (rw [if_pos (by omega)])
 unfold nj;rw [<- h1,<- u];rcases hk v.aR.l 0 with ⟨j,f,g⟩|⟨f,g⟩
 ·have hi:oh v.aR s=(j:Int):=by unfold oh; rw [f]; rfl
  rw [q _ hi,g w,<- m.length];by_cases k:v.ai=6
  ·simp only [k,decide_true,Bool.not_true,cond_false,true_and];by_cases t:j<v.aB.l.length
   ·obtain⟨y,H,hr⟩:=m.get (List.getElem?_eq_getElem t);obtain⟨x',I,J⟩:=EW n hr F0 (by rw [fR]; omega);obtain⟨K,L,M⟩:=Ks n J F0 (by rw [fR]; omega);have hq:decide (((v.aB.l.length:Nat):Int)<=(j:Int))=false:=dF (by omega);refine⟨x',K,true, ?_, ?_,.inl ⟨rfl,M⟩⟩
    ·rw [if_pos (by omega)];unfold c_; rw [if_pos (by omega)];rw [show ((j:Int).toNat)=j by omega,List.getElem?_eq_getElem t,oB];unfold q6; rw [I]; rfl
    ·rw [hq,cond_false,H,oB]; unfold EY; rw [L]; rfl
   ·have hq:decide (((v.aB.l.length:Nat):Int)<=(j:Int))=true:=dT (by omega);refine⟨zv,zv,false,by rw [if_neg (by omega)], ?_,.inr ⟨rfl,rfl,rfl⟩⟩;rw [hq]; rfl
  ·refine⟨zv,zv,false,by rw [if_neg (fun h=>k h.1)], ?_,.inr ⟨rfl,rfl,rfl⟩⟩;simp only [k,decide_false,Bool.not_false,cond_true]; rfl
 ·have hi:oh v.aR s = -1:=by unfold oh; rw [f]; rfl
  rw [q _ hi,g w];refine⟨zv,zv,false,by rw [if_neg (by omega)], ?_,.inr ⟨rfl,rfl,rfl⟩⟩;cases decide (v.ai=6)<;>rfl
theorem Kw {n:Nat}{va:Z9}(h:Rl (n+1) va va) (hn:n<=1099511627776) (d:ak) (li:Bool) (c:Int){m:Nat}{v w:Z9}(hv:Rl m v w) :
  ∃b,vj ⟨d,va,li,c⟩ v=some b/\q7 ⟨d,va,li,c,0⟩ w=some b:=by
 cases m with
 | zero=>exact hv.elim
 | succ m =>
  obtain⟨h1,_,f,_⟩:=hv;unfold vj q7;simp only;rw [<- h1,<- f];obtain⟨x,y,b,g,j,_⟩:=EX h hn v.bp;rw [g,j];cases li<;>cases hk:decide (v.ai=7)<;>exact⟨_,rfl,rfl⟩
theorem S7 {n:Nat}(h:n<256):IntKind.wrap .u8 (n:Int)=(n:Int):=by
 have:(n:Int) % 256=n:=by omega
 simp [IntKind.wrap,IntKind.bits,IntKind.signed]; omega
theorem Ky (k:Nat):nN (⟨false,[((48+k:Nat):Int)]⟩:Sl Int)=[UInt8.ofNat (48+k)]:=by
 show [UInt8.ofNat ((48+k:Nat):Int).toNat]=_;rw [Int.toNat_natCast]
theorem S8:∀(f u:Nat),u<10 ^ f->(Lib.decDigits u).length<=f+1:=by
 intro f;induction f with
 | zero =>
  intro u hu;have:u=0:=by simpa using hu
  subst this; rw [Lib.decDigits]; simp
 | succ f b =>
  intro u hu;rw [Lib.decDigits]
  split
  ·simp
  ·have:=b (u / 10) (by rw [Nat.pow_succ] at hu; omega);simp; omega
theorem BV {u:Nat}(h:u<=9223372036854775808):(Lib.decDigits u).length<=21:=S8 20 u (by omega)
theorem Kz {n:Int}(h0 : -9223372036854775808<=n) (h1:n<=9223372036854775807):(Lib.itoa n).length<=22:=by
 unfold Lib.itoa
 split
 ·have:=BV (u:=n.natAbs) (by omega); simp; omega
 ·have:=BV (u:=n.toNat) (by omega); omega
theorem S9:∀(f u:Nat),u<10 ^ f->u<=9223372036854775808->f<=30->∀m,f+1<=m->q8 m (-(u:Int))=some (Lib.decDigits u):=by
 intro f;induction f with
 | zero =>
  intro u hu g j m hm;have:u=0:=by simpa using hu
  subst this;obtain⟨m,rfl⟩:∃k,m=k+1:=⟨m-1,by omega⟩;rw [Lib.decDigits]; rfl
 | succ f l =>
  intro u hu g j m hm;obtain⟨m,rfl⟩:∃k,m=k+1:=⟨m-1,by omega⟩;have h1:Int.tmod (-(u:Int)) 10 = -((u % 10:Nat):Int):=by rw [Int.neg_tmod]; rfl
  have p:Int.tdiv (-(u:Int)) 10 = -((u / 10:Nat):Int):=by rw [Int.neg_tdiv]; rfl
  rw [q8,h1,p,Il (by omega),oB];have q:(48:Int) - -((u % 10:Nat):Int)=((48+u % 10:Nat):Int):=by omega
  rw [q,S7 (by omega),Lib.decDigits];by_cases b:u<10
  ·rw [dif_pos b,show decide ((-10:Int) < -(u:Int))=true from dT (by omega),cond_true,Nat.mod_eq_of_lt b,Ky]
  ·rw [dif_neg b,show decide ((-10:Int) < -(u:Int))=false from dF (by omega),cond_false,IntWalk.i64_in _ (by omega),l (u / 10) (by rw [Nat.pow_succ] at hu; omega) (by omega) (by omega) m (by omega),oB];have hl:=BV (u:=u / 10) (by omega);rw [Ky,cI (by simp; omega),oB]
theorem EZ {n:Int}(h0 : -9223372036854775808<=n) (h1:n<=9223372036854775807):uT n=some (Lib.itoa n):=by
 unfold uT E0;have b:∀u:Nat,u<=9223372036854775808->q8 F0 (-(u:Int))=some (Lib.decDigits u):=fun u hu=>S9 20 u (by omega) hu (by omega) F0 (by rw [fR]; omega);by_cases hn:n<0
 ·obtain⟨u,rfl⟩:∃u:Nat,n = -(u:Int):=⟨n.natAbs,by omega⟩;rw [show decide (-(u:Int)<0)=true from dT hn,cond_true,b u (by omega),oB];have hl:=BV (u:=u) (by omega);rw [cI (by simp; omega),oB];unfold Lib.itoa; rw [if_pos hn,show (-(u:Int)).natAbs=u by omega]; rfl
 ·obtain⟨u,rfl⟩:∃u:Nat,n=(u:Int):=⟨n.natAbs,by omega⟩;rw [show decide ((u:Int)<0)=false from dF hn,cond_false,IntWalk.i64_in _ (by omega),show (0:Int)-(u:Int) = -(u:Int) by omega,b u (by omega),oB];unfold Lib.itoa; rw [if_neg hn,Int.toNat_natCast]
theorem S_ {n:Int}(h0 : -9223372036854775808<=n) (h1:n<=9223372036854775807):xg n=some (Lib.itoa n):=by
 unfold xg KA BW;rw [if_pos ⟨h0,h1,by have:=Kz h0 h1; unfold fu; omega⟩]; rfl
def zG (s:Bs):Z9:=Z9.mk 3 0 s true [] Sl.nil
theorem Ta (s:Bs):Rl 1 (zG s) (zG s):=⟨rfl,⟨rfl,by show _<=(0:Int); decide,by show (0:Int)<=_; decide⟩,rfl,rfl,fun _=>rfl,by show 0<=_; omega,by show 0<=_; omega,fun _=>⟨rfl,rfl,rfl⟩,.nil⟩
def BX (n:Nat) (d:ak) (va:Z9) (li:Bool) (c:Int) (p:Option (Z9×Int)) (q:Option (Z9×Z3)):Prop :=
 (∃x y k',p=some (x,23)/\q=some (y,k')/\k'.dh=23)\/(∃x y,p=some (x,0)/\q=some (y,⟨d,va,li,c,0⟩)/\Rl n x y)
theorem xh (d:ak) (va:Z9) (li:Bool) (c e:Int):fq ⟨d,va,li,c,0⟩ e=⟨d,va,li,c,e⟩:=rfl
theorem Tb {n:Nat}{v w:Z9}(h:Rl (n+1) v w) (d:ak) (va:Z9) (li:Bool) (c:Int) (s:Bs) (m:cV s=true) :
  BX (n+1) d va li c (tM ⟨d,va,li,c⟩ s v) (lg ⟨d,va,li,c,0⟩ s w):=by
 obtain⟨h1,l,z,_⟩:=id h;have q:uT v.bA=some (Lib.itoa v.bA):=EZ l.2.1 l.2.2;have r:xg v.bA=some (Lib.itoa v.bA):=S_ l.2.1 l.2.2;have t:BY (Lib.itoa v.bA)=zG (Lib.itoa v.bA):=rfl;have u:Rl (n+1) (zG (Lib.itoa v.bA)) (zG (Lib.itoa v.bA)):=(Ta _).mono (by omega);unfold tM lg;rw [<- h1,<- l.1];simp only [on,xh,q,r,t,oB]
 unfold cV at m;cases b:(s==([73,110,116]:Bs))
 ·cases f:(s==([83,116,114,105,110,103]:Bs))
  ·cases g:(s==([66,111,111,108,101,97,110]:Bs))
   ·cases j:(s==([73,68]:Bs))
    ·rw [b,f,g,j] at m; cases m
    ·by_cases k2:v.ai=2
     ·simp only [k2,decide_true,cond_true,cond_false,Bool.false_and,Bool.and_true,Bool.true_and,oB];exact .inr ⟨_,_,rfl,rfl,u⟩
     ·by_cases k:v.ai=3
      ·simp [k];exact .inr ⟨_,_,rfl,rfl,h⟩
      ·simp [k2,k];exact .inl ⟨_,_,_,rfl,rfl,rfl⟩
   ·by_cases p:v.ai=1
    ·simp [p];exact .inr ⟨_,_,rfl,rfl,h⟩
    ·simp [p];have j:(s==([73,68]:Bs))=false:=by
      rw [beq_iff_eq] at g; rw [g]; rfl
     simp [j];exact .inl ⟨_,_,_,rfl,rfl,rfl⟩
  ·have g:(s==([66,111,111,108,101,97,110]:Bs))=false:=by rw [beq_iff_eq] at f; rw [f]; rfl
   have j:(s==([73,68]:Bs))=false:=by rw [beq_iff_eq] at f; rw [f]; rfl
   by_cases k:v.ai=3
   ·simp [k];exact .inr ⟨_,_,rfl,rfl,h⟩
   ·simp [k,g,j];exact .inl ⟨_,_,_,rfl,rfl,rfl⟩
 ·have f:(s==([83,116,114,105,110,103]:Bs))=false:=by rw [beq_iff_eq] at b; rw [b]; rfl
  have g:(s==([66,111,111,108,101,97,110]:Bs))=false:=by rw [beq_iff_eq] at b; rw [b]; rfl
  have j:(s==([73,68]:Bs))=false:=by rw [beq_iff_eq] at b; rw [b]; rfl
  by_cases k2:v.ai=2<;>by_cases k:(-2147483648:Int)<=v.bA<;>by_cases y:v.bA<(2147483648:Int)<;>simp [k2,k,y,f,g,j];all_goals first
   | exact .inr ⟨_,_,rfl,rfl,h⟩
   | exact .inl ⟨_,_,_,rfl,rfl,rfl⟩
theorem contains_eq (b:Sl Z8) (p:Z8->Bool):tI b p=b.l.any p:=by
 have aux:∀(l:List Z8) (i:Nat),(l.any p=true->∃j:Nat,ot p l i=Sum.inr (j:Int))/\(l.any p=false->ot p l i=Sum.inl ()):=by
  intro l;induction l with
  | nil=>intro i; exact⟨fun h=>(by cases h),fun _=>rfl⟩
  | cons a r f =>
   intro i;rw [ot,List.any_cons];simp only [on];cases p a with
   | true=>exact⟨fun _=>⟨i,rfl⟩,fun h=>(by cases h)⟩
   | false=>simpa using f (i+1)
 unfold tI zC;simp only [on];cases h:b.l.any p with
 | true=>obtain⟨j,e⟩:=(aux b.l 0).1 h; rw [e]; exact dT (by show (0:Int)<=(j:Int); omega)
 | false=>rw [(aux b.l 0).2 h]; rfl
theorem Tc (w:Z3) (x:Z9) (l:List Z8):lm w x l=(if l.any (fun m=>m.aa==x.bp) then Sum.inr (Z9.mk 4 0 x.bp true [] Sl.nil,w) else Sum.inl ()):=by
 induction l with
 | nil=>rfl
 | cons a r b =>
  rw [lm,List.any_cons];simp only [on];cases a.aa==x.bp with
  | true=>rfl
  | false=>simpa using b
theorem Td {s:Bs}(b:cV s=false):(s==([73,110,116]:Bs))=false/\(s==([83,116,114,105,110,103]:Bs))=false/\(s==([66,111,111,108,101,97,110]:Bs))=false/\(s==([73,68]:Bs))=false:=by
 unfold cV at b;simp only [Bool.or_eq_false_iff] at b;exact⟨b.1.1.1,b.1.1.2,b.1.2,b.2⟩
theorem Te {n:Nat}{v w:Z9}(h:Rl (n+1) v w) (d:ak) (va:Z9) (li:Bool) (c:Int) (s:Bs) (k:cV s=false) :
  BX (n+1) d va li c (tM ⟨d,va,li,c⟩ s v) (some (lp ⟨d,va,li,c,0⟩ (bl d.aj.l s).1 w)):=by
 obtain⟨p,q,r,t⟩:=Td k;obtain⟨h1,u,y,G,z,B,C,E,H⟩:=id h;unfold tM lp zH;rw [<- h1];simp only [p,q,r,t,on,xh,cond_false,kf,contains_eq,Tc,<- y];have vk:∀x:Z9,x.ai=4->x.bA=v.bA->x.bp=v.bp->x.aB.l=v.aB.l->x.aR=v.aR->(v.ai=3\/v.ai=4)->Rl (n+1) x (Z9.mk 4 0 v.bp true [] Sl.nil):=by
  intro x a b c' j e hk;obtain⟨g1,g2,g3⟩:=E hk;refine⟨a,⟨by rw [b,g1]; rfl,by rw [b]; exact u.2⟩,c', ?_, ?_, ?_, ?_,fun _=>⟨by rw [b,g1],by rw [j,g2],by rw [e,g3]⟩, ?_⟩
  ·rw [e,g3]; rfl
  ·rw [e]; exact z
  ·rw [e]; exact B
  ·rw [j]; exact C
  ·rw [j,g2]; exact .nil
 by_cases f:v.ai=4
 ·simp only [f,decide_true,show decide ((4:Int)=3)=false from rfl,Bool.false_and,cond_false,cond_true,Bool.true_and,Bool.true_or];cases F:(bl d.aj.l s).1.ax.l.any (fun m=>m.aa==v.bp) with
  | true=>exact .inr ⟨_,_,rfl,rfl,vk v f rfl rfl rfl rfl (.inr f)⟩
  | false=>exact .inl ⟨_,_,_,rfl,rfl,rfl⟩
 ·by_cases g:v.ai=3
  ·cases li with
   | true =>
    simp only [g,decide_true,show decide ((3:Int)=4)=false from rfl,Bool.not_true,Bool.and_false,cond_false,Bool.false_and,Bool.false_or,Bool.not_false,cond_true];exact .inl ⟨_,_,_,rfl,rfl,rfl⟩
   | false =>
    simp only [g,decide_true,Bool.not_false,Bool.and_true,cond_true,Bool.or_true];have hk:(Z9.mk 4 v.bA v.bp v.aB.nl v.aB.l v.aR).ai=4:=rfl;have ht:(Z9.mk 4 v.bA v.bp v.aB.nl v.aB.l v.aR).bp=v.bp:=rfl;simp only [hk,ht,decide_true,cond_true,Bool.true_and];cases F:(bl d.aj.l s).1.ax.l.any (fun m=>m.aa==v.bp) with
    | true=>exact .inr ⟨_,_,rfl,rfl,vk _ rfl rfl rfl rfl rfl (.inl g)⟩
    | false=>exact .inl ⟨_,_,_,rfl,rfl,rfl⟩
  ·simp only [g,f,decide_false,Bool.false_and,cond_false,Bool.not_false,cond_true,Bool.or_false];exact .inl ⟨_,_,_,rfl,rfl,rfl⟩
def BZ (n:Nat) (a1:aL) (a3:Int) (m:Z1) (f:Z9):Option (Z9×Int×Z1) :=
 (tL m a3).bind fun b=>bif (!decide (b.1=(0:Int))) then(some (zv,b.1,b.2)) else(bif (decide (f.ai=(0:Int))) then(bif jB a1 then(some (zv,(23:Int),b.2)) else(some (zv,(0:Int),b.2))) else((th a1).bind fun k=>bif k.2 then(((vl n) b.2 k.1 f a3).bind fun g=>some (g.1,g.2.1,g.2.2)) else(bif (((fA b.2.Fd a1.aa).2&&(!(bif (fA b.2.Fd a1.aa).2 then cV a1.aa else false)))&&(decide ((fA b.2.Fd a1.aa).1.ai=(5:Int)))) then(((vm n) b.2 (fA b.2.Fd a1.aa).1 f a3).bind fun j=>some (j.1,j.2.1,j.2.2)) else((tM b.2 a1.aa f).bind fun l=>some (l.1,l.2,b.2)))))
theorem Tf (n:Nat) (a0:Z1) (a1:aL) (a2:Z9) (a3:Int):fL (n+1) a0 a1 a2 a3 =
  bif (!ja a0.Fd a1.aa) then(some (zv,(10:Int),a0)) else(bif ((decide (a2.ai=(7:Int)))&&a0.qA) then((p5 a0.eY a2.bp).bind fun b=>bif (!decide (b.1.ai=(0:Int))) then((E1 a0 b.1 a3).bind fun f=>bif (!decide (f.1=(0:Int))) then(some (zv,f.1,f.2)) else(some (b.1,(0:Int),f.2))) else(BZ n a1 a3 a0 b.1)) else(BZ n a1 a3 a0 a2)):=by
 rw [fL]; rfl
def B5 (n:Nat) (a1:aL) (a3:Int) (m:Z3) (f:Z9):Option (Z9×Z3) :=
 (l8 m a3).bind fun b=>bif (!decide (b.dh=(0:Int))) then(some (zv,b)) else(bif (decide (f.ai=(0:Int))) then(some (zv,bif iz a1 then fq b (23:Int) else b)) else((mQ a1).bind fun g=>bif g.2 then(((lq n) b g.1 f a3).bind fun j=>some (j.1,j.2)) else(bif jq a1.aa then((lg b a1.aa f).bind fun k=>some (k.1,k.2)) else(bif (decide ((eR b.Fd a1.aa).1.ai=(4:Int))) then(some ((lp b (eR b.Fd a1.aa).1 f).1,(lp b (eR b.Fd a1.aa).1 f).2)) else(((lu n) b (eR b.Fd a1.aa).1 f a3).bind fun l=>some (l.1,l.2))))))
theorem KB (n:Nat) (a0:Z3) (a1:aL) (a2:Z9) (a3:Int):eM (n+1) a0 a1 a2 a3 =
  bif (!jN a0.Fd a1.aa) then(some (zv,fq a0 (10:Int))) else(bif (a0.fK&&(decide (a2.ai=(7:Int)))) then((nj a0.eY a2.bp).bind fun b=>bif (!decide (b.1.ai=(0:Int))) then((E2 a0 b.1 a3).bind fun f=>some (f.1,f.2)) else(B5 n a1 a3 a0 zv)) else(B5 n a1 a3 a0 a2)):=by
 rw [eM]; rfl
def l9 (M:Nat) (d:ak) (va:Z9) (li:Bool) (p:Option (Z9×Int×Z1)) (q:Option (Z9×Z3)):Prop :=
 (∃e x c' y k',e≠0/\p=some (x,e,c')/\q=some (y,k')/\k'.dh=e)\/(∃m x y,0<=m/\m<=4096/\p=some (x,0,⟨d,va,li,m⟩)/\q=some (y,⟨d,va,li,m,0⟩)/\Rl M x y)
theorem l9.eta {M:Nat}{d:ak}{va:Z9}{li:Bool}{p:Option (Z9×Int×Z1)}{q:Option (Z9×Z3)}(h:l9 M d va li p q) :
  l9 M d va li (p.bind fun x=>some (x.1,x.2.1,x.2.2)) (q.bind fun x=>some (x.1,x.2)):=by
 have b:(p.bind fun x=>some (x.1,x.2.1,x.2.2))=p:=by cases p<;>rfl
 have f:(q.bind fun x=>some (x.1,x.2))=q:=by cases q<;>rfl
 rw [b,f]; exact h
theorem BX.KC {n M:Nat}{d:ak}{va:Z9}{li:Bool}{c:Int}{p:Option (Z9×Int)}{q:Option (Z9×Z3)}(h:BX n d va li c p q) (hc:0<=c/\c<=4096) (hm:n<=M) :
  l9 M d va li (p.bind fun x=>some (x.1,x.2,(⟨d,va,li,c⟩:Z1))) q:=by
 rcases h with ⟨x,y,k',b,f,g⟩|⟨x,y,b,f,g⟩
 ·exact .inl ⟨23,x,_,y,k',by decide,by rw [b]; rfl,f,g⟩
 ·exact .inr ⟨c,x,y,hc.1,hc.2,by rw [b]; rfl,f,g.mono hm⟩
def oA (N:Nat) (x:Z7):Prop:=dZ x.av.aH/\(x.ck=true->Rl N x.cR x.cR)
def l_ (N:Nat) (t:ah):Prop:=t.aF.l.length<=1048576/\∀x∈t.aF.l,oA N x
def E3 (N M:Nat) (d:ak) (n m:Nat) (b:Int):Prop:=∀(va:Z9) (li:Bool) (c:Int) (t t':aL) (v w:Z9),Rl (N+1) va va->0<=c/\c<=4096->dZ t.aH->vg t t'->Rl N v w ->
 l9 M d va li (vl n ⟨d,va,li,c⟩ t v b) (lq m ⟨d,va,li,c,0⟩ t' w b)
def E4 (N M:Nat) (d:ak) (n m:Nat) (b:Int):Prop:=∀(va:Z9) (li:Bool) (c:Int) (t:ah) (v w:Z9),Rl (N+1) va va->0<=c/\c<=4096->l_ N t->Rl N v w ->
 l9 M d va li (vm n ⟨d,va,li,c⟩ t v b) (lu m ⟨d,va,li,c,0⟩ t w b)
theorem KD {N M n m:Nat}{d:ak}{b:Int}(q:N<=M) (B:1<=M) (C:∀s,l_ N (bl d.aj.l s).1) (hl:b<=24->E3 N M d n m b) (E:b<=24->E4 N M d n m b){va:Z9}{li:Bool}{c:Int}{t t':aL}{v w:Z9}
  (r:Rl (N+1) va va) (hc:0<=c/\c<=4096) (ht:dZ t.aH) (he:vg t t') (hk:v.ai=w.ai) (hv:v.ai≠0->Rl N v w) (hi:ja d t.aa=true) :
  l9 M d va li (BZ n t b ⟨d,va,li,c⟩ v) (B5 m t' b ⟨d,va,li,c,0⟩ w):=by
 unfold BZ B5;rcases Kt d va li c b hc with ⟨e,c',k',he,j,f,u⟩|⟨y,K,j,f⟩
 ·rw [j,f];exact .inl ⟨e,zv,c',zv,k',he,by simp [he],by simp [u,he],u⟩
 ·rw [j,f];simp only [oB,decide_true,Bool.not_true,cond_false];rw [<- hk,w6,wW,<- he.2];by_cases k:v.ai=0
  ·simp only [k,decide_true,cond_true,xh];cases eZ t.aH.l with
   | true=>exact .inl ⟨23,_,_,_,_,by decide,rfl,rfl,rfl⟩
   | false=>exact .inr ⟨c+1,_,_,by omega,by omega,rfl,rfl,xf.mono B⟩
  ·have hv:=hv k;simp only [k,decide_false,cond_false];have hlen:t'.aH.l.length<=1048576:=by rw [<- he.2]; exact ht.2
   obtain⟨x,ex,hx⟩:=SY (t:=t') hlen;rw [ex,Ew ht,<- he.lS];simp only [oB];cases F:gX (cr t.aH).l with
   | true =>
    simp only [cond_true];refine(hl y va li (c+1) _ _ v w r (by omega) (Ev ht) ?_ hv).eta;have h1:=hx (by rw [<- he.lS]; exact F);exact⟨he.1.trans h1.1,by rw [<- h1.2]; show (cr t.aH).l.drop 1=(cr t'.aH).l.drop 1; rw [he.lS]⟩
   | false =>
    simp only [cond_false];rw [ET,kf,<- he.1];have G:jq t.aa=cV t.aa:=rfl;rw [G];obtain⟨N,rfl⟩:∃H,N=H+1:=by cases N with|zero=>exact hv.elim|succ N=>exact⟨N,rfl⟩
    cases g:cV t.aa with
    | true =>
     have:((bl d.aj.l t.aa).2&&!(bif (bl d.aj.l t.aa).2 then true else false))=false:=by cases (bl d.aj.l t.aa).2<;>rfl
     simp only [this,Bool.false_and,cond_false,cond_true];have:=(Tb hv d va li (c+1) t.aa g).KC (M:=M) (by omega) q;have f:((lg ⟨d,va,li,c+1,0⟩ t.aa w).bind fun z=>some (z.1,z.2))=lg ⟨d,va,li,c+1,0⟩ t.aa w:=by
      cases lg ⟨d,va,li,c+1,0⟩ t.aa w<;>rfl
     rw [f]; exact this
    | false =>
     simp only [cond_false];have p:(bl d.aj.l t.aa).2=true:=by
      cases p:(bl d.aj.l t.aa).2 with
      | true=>rfl
      | false =>
       have:=Kr hi g;rw [EU _ _ p] at this;rcases this with h|h<;>cases h
     rw [p];rcases Kr hi g with I|J
     ·simp only [I,decide_true,show decide ((4:Int)=5)=false from rfl,Bool.and_false,cond_false,cond_true];exact(Te hv d va li (c+1) t.aa g).KC (M:=M) (by omega) q
     ·simp only [J,decide_true,show decide ((5:Int)=4)=false from rfl,cond_true,cond_false,Bool.not_false,Bool.and_true,Bool.and_self];exact(E y va li (c+1) _ v w r (by omega) (C _) hv).eta
theorem Tg {M:Nat}{x y r f:Z9}{b b':Bool}(h:Rl (M+1) x y) (hr:Rl M r f) (g:x.ai≠3) (j:x.ai≠4) (k:x.aB.l.length+1<=bB) :
  Rl (M+1) (Z9.mk x.ai x.bA x.bp b (x.aB.l++[r]) x.aR) (Z9.mk y.ai y.bA y.bp b' (y.aB.l++[f]) y.aR):=by
 obtain⟨a1,a2,a3,a4,a5,m,p,q,a9⟩:=h;exact⟨a1,a2,a3,a4,a5,m,by show (x.aB.l++[r]).length<=bB; simpa using k,fun h=>(h.elim g j).elim,a9.append (.cons hr .nil)⟩
def q9 (N M:Nat) (d:ak) (n m:Nat) (b:Int):Prop:=∀(va:Z9) (li:Bool) (c:Int) (t t':aL) (v w:Z9),Rl (N+1) va va->0<=c/\c<=4096->dZ t.aH->vg t t'->Rl N v w ->
 l9 M d va li (fL n ⟨d,va,li,c⟩ t v b) (eM m ⟨d,va,li,c,0⟩ t' w b)
theorem Ti (a1:aL) (a3:Int) (k:Z3->aL->Z9->Int->Option (Z9×Z3)) (l:List Z9) (w:Z3) (x:Z9) (h:w.dh≠0):jD a1 a3 k l w x=some (w,x):=by
 cases l with
 | nil=>rfl
 | cons a t=>rw [jD]; simp [h]
theorem Tj {N M n m:Nat}{d:ak}{f:Int}(bQ:q9 N M d n m (f+1)) (G:0<=f/\f<=1000){va:Z9}{li:Bool}{t t':aL}(z:Rl (N+1) va va) (ht:dZ t.aH) (he:vg t t') :
  ∀(l l':List Z9) (c:Int) (x y:Z9),aW (Rl N) l l'->0<=c/\c<=4096->Rl (M+1) x y->x.ai≠3->x.ai≠4->x.aB.l.length+l.length<=bB ->
   (∃e c' k' x' g,e≠0/\p6 t f (fL n) l ⟨d,va,li,c⟩ x=some (Sum.inr (x',e,c'))/\jD t' f (eM m) l' ⟨d,va,li,c,0⟩ y=some (k',g)/\k'.dh=e) \/
   (∃c' x' g,0<=c'/\c'<=4096/\p6 t f (fL n) l ⟨d,va,li,c⟩ x=some (Sum.inl (⟨d,va,li,c'⟩,x'))/\jD t' f (eM m) l' ⟨d,va,li,c,0⟩ y=some (⟨d,va,li,c',0⟩,g)/\Rl (M+1) x' g):=by
 intro l l' c x y hl;induction hl generalizing c x y with
 | nil=>intro hc hx _ _ _; exact .inr ⟨c,x,y,hc.1,hc.2,rfl,rfl,hx⟩
 | @cons a b tl H B I C =>
  intro hc hx u v k;simp only [List.length_cons] at k;have J:y.aB.l.length=x.aB.l.length:=hx.2.2.2.2.2.2.2.2.length.symm;rw [p6,jD];simp only [on,iL (show -9223372036854775808<=f+1/\f+1<=9223372036854775807 by omega),oB,decide_true,cond_true];have E:∀r:Z9,bh 80 x.aB (⟨false,[r]⟩:Sl Z9)=some ⟨x.aB.nl&&[r].isEmpty,x.aB.l++[r]⟩:=fun r=>tK (by unfold bB at k; simp; omega)
  have w:∀r:Z9,bh 80 y.aB (⟨false,[r]⟩:Sl Z9)=some ⟨y.aB.nl&&[r].isEmpty,y.aB.l++[r]⟩:=fun r=>tK (by unfold bB at k; simp; omega);rcases bQ va li c t t' a b z hc ht he B with ⟨e,r,c',F,k',p,q,s,j⟩|⟨c',r,F,g1,g2,q,s,j⟩
  ·left
   rw [q,s,oB,oB,w,oB,Ti _ _ _ _ _ _ (by rw [j]; exact p)];exact⟨e,c',k',_,_,p,by simp [p]; rfl,rfl,j⟩
  ·rw [q,s,oB,oB,E,w,oB,oB];simp only [decide_true,Bool.not_true,cond_false];exact C c' _ _ ⟨g1,g2⟩ (Tg hx j u v (by omega)) u v (by show (x.aB.l++[r]).length+_<=bB; simp; omega)
theorem Tl {N M n m:Nat}{d:ak}{b:Int}(bQ:q9 N M d n m (b+1)) (z:0<=b/\b<=1000):E3 N (M+1) d (n+1) (m+1) b:=by
 intro va li c t t' v w B hc ht he hv;have h0:Rl (M+1) (Z9.mk 5 0 [] true [] Sl.nil) (Z9.mk 5 0 [] true [] Sl.nil) :=
  ⟨rfl,⟨rfl,by show _<=(0:Int); decide,by show (0:Int)<=_; decide⟩,rfl,rfl,fun _=>rfl,by show 0<=_; omega,by show 0<=_; omega,fun h=>(by rcases h with h|h<;>cases h),.nil⟩
 have main:∀(s g:Sl Z9),aW (Rl N) s.l g.l->s.l.length<=bB->l9 (M+1) d va li
   ((p6 t b (fL n) s.l ⟨d,va,li,c⟩ (Z9.mk 5 0 [] true [] Sl.nil)).bind fun C=>match C with|Sum.inl r=>(on ((r.1,r.2)) fun f=>some (f.2,(0:Int),f.1))|Sum.inr E=>(some E))
   ((jD t' b (eM m) g.l ⟨d,va,li,c,0⟩ (Z9.mk 5 0 [] true [] Sl.nil)).bind fun u=>on ((u.1,u.2)) fun f=>some (f.2,f.1)):=by
  intro s g F H;rcases Tj bQ z (li:=li) B ht he s.l g.l c _ _ F hc h0 (by decide) (by decide) (by show 0+_<=_; omega) with ⟨e,c',k',x',j,G,k,p,q⟩|⟨c',x',j,g1,g2,k,p,q⟩
  ·rw [k,p]; exact .inl ⟨e,x',c',j,k',G,rfl,rfl,q⟩
  ·rw [k,p]; exact .inr ⟨c',x',j,g1,g2,rfl,rfl,q⟩
 rw [vl,lq];have hk:v.ai=w.ai:=by cases N with|zero=>exact hv.elim|succ N=>exact hv.1
 rw [<- hk];by_cases y:v.ai=5
 ·simp only [y,decide_true,Bool.not_true,cond_false,cond_true];cases N with
  | zero=>exact hv.elim
  | succ N=>exact main v.aB w.aB (hv.2.2.2.2.2.2.2.2.imp fun _ _ h=>h.mono (by omega)) hv.2.2.2.2.2.2.1
 ·simp only [y,decide_false,Bool.not_false,cond_false,cond_true];exact main ⟨false,[v]⟩ ⟨false,[w]⟩ (.cons hv .nil) (by show 1<=bB; unfold bB; omega)
def E5 (N M:Nat) (d:ak) (n m:Nat) (b:Int):Prop:=∀(va:Z9) (li:Bool) (c:Int) (x:Z7),0<=c/\c<=4096->oA N x->x.ck=true ->
 l9 M d va li (jE n ⟨d,va,li,c⟩ x b) (iB m ⟨d,va,li,c,0⟩ x.av x.cR b)
theorem Tm {N M n m:Nat}{d:ak}{k:Int}(bQ:q9 N M d n m k):E5 N M d (n+1) (m+1) k:=by
 intro va li c x hc hx hh;rw [jE,iB];rcases bQ zv true c x.av x.av x.cR x.cR (xf.mono (by omega)) hc hx.1 ⟨rfl,rfl⟩ (hx.2 hh) with ⟨e,r,c',g,k',l,b,f,j⟩|⟨c',r,g,g1,g2,b,f,j⟩
 ·unfold zv at b f;rw [b,f];exact .inl ⟨e,r,_,g,_,l,rfl,rfl,j⟩
 ·unfold zv at b f;rw [b,f];exact .inr ⟨c',r,g,g1,g2,rfl,rfl,j⟩
theorem Tn (t:ah) (l:List Bs) (w:Z3) (h:w.dh=22):jQ t l w=w:=by
 induction l generalizing w with
 | nil=>rfl
 | cons a r b =>
  rw [jQ];have:fq w 22=w:=by unfold fq; rw [h]; rfl
  simp only [on,this];cases (!(iZ t.aF a).2)<;>exact b w h
theorem To (d:ak) (va:Z9) (li:Bool) (c:Int) (t:ah) (l:List Bs) :
  (q_ ⟨d,va,li,c⟩ t l=Sum.inr (zv,22,⟨d,va,li,c⟩)/\jQ t l ⟨d,va,li,c,0⟩=⟨d,va,li,c,22⟩) \/
  (q_ ⟨d,va,li,c⟩ t l=Sum.inl ()/\jQ t l ⟨d,va,li,c,0⟩=⟨d,va,li,c,0⟩):=by
 induction l with
 | nil=>exact .inr ⟨rfl,rfl⟩
 | cons a r b =>
  rw [q_,jQ];simp only [on,xh,S3,zl];cases h:(dw t.aF.l a).2 with
  | true=>simpa using b
  | false =>
   left
   simp only [Bool.not_false,cond_true];exact⟨rfl,Tn t r _ rfl⟩
theorem Tp (a0:Sl Z7) (i:Nat) (x:Z7) (hi:a0.l[i]?=some x) (u:a0.l.length<=1048576):∀(k f:Nat) (s:Nat),s+k=i->k<f ->
  oC a0 (i:Int) f (s:Int)=some (((a0.l.take i).drop s).any fun y=>y.aa==x.aa):=by
 have v:i<a0.l.length:=(List.getElem?_eq_some_iff.1 hi).1;intro k;induction k with
 | zero =>
  intro f s b j;obtain⟨f,rfl⟩:∃g,f=g+1:=⟨f-1,by omega⟩;rw [oC,show decide ((s:Int)<(i:Int))=false from dF (by omega),cond_false,List.drop_of_length_le (by simp; omega)]; rfl
 | succ k m =>
  intro f s b j;obtain⟨f,rfl⟩:∃g,f=g+1:=⟨f-1,by omega⟩;have p:s<a0.l.length:=by omega
  rw [oC,show decide ((s:Int)<(i:Int))=true from dT (by omega),cond_true];have q:c_ a0.l (s:Int)=some a0.l[s]:=by unfold c_; rw [if_pos (by omega),show ((s:Int).toNat)=s by omega,List.getElem?_eq_getElem p]
  have r:c_ a0.l (i:Int)=some x:=by unfold c_; rw [if_pos (by omega),show ((i:Int).toNat)=i by omega,hi]
  rw [q,r,oB,oB];have t:(a0.l.take i).drop s=a0.l[s]::(a0.l.take i).drop (s+1):=by
   rw [List.drop_eq_getElem_cons (by simp; omega)]; simp
  rw [t,List.any_cons,iL (by omega),oB];cases a0.l[s].aa==x.aa with
  | true=>rfl
  | false=>rw [cond_false,Bool.false_or]; exact m f (s+1) (by omega) (by omega)
theorem Tq (a0:Sl Z7) (i:Nat) (x:Z7) (hi:a0.l[i]?=some x) (b:a0.l.length<=1048576):xl a0 (i:Int)=some (dw (a0.l.take i) x.aa).2:=by
 have f:i<a0.l.length:=(List.getElem?_eq_some_iff.1 hi).1;unfold xl B6;have:=Tp a0 i x hi b i F0 0 (by omega) (by rw [fR]; omega);rw [show ((0:Int))=((0:Nat):Int) from rfl,this,List.drop_zero];unfold dw
 congr 1
 cases h:(a0.l.take i).find? (fun t=>t.aa==x.aa) with
 | none=>rw [List.find?_eq_none] at h; rw [List.any_eq_false]; exact h
 | some t=>exact List.any_eq_true.2 ⟨t,List.mem_of_find?_eq_some h,by simpa using List.find?_some h⟩
theorem Tr {M:Nat}{x y r f:Z9}{b b' k k':Bool}{nm:Bs}(h:Rl (M+1) x y) (hr:Rl M r f) (g:x.ai≠3) (j:x.ai≠4) (m:x.aB.l.length+1<=bB) (p:x.aR.l.length+1<=bB) (hk:k=false) :
  Rl (M+1) (Z9.mk x.ai x.bA x.bp b (x.aB.l++[r]) ⟨k,x.aR.l++[nm]⟩) (Z9.mk y.ai y.bA y.bp b' (y.aB.l++[f]) ⟨k',y.aR.l++[nm]⟩):=by
 obtain⟨a1,a2,a3,a4,a5,q,s,t,a9⟩:=h;exact⟨a1,a2,a3,by show x.aR.l++[nm]=y.aR.l++[nm]; rw [a4],fun e=>(by have e:k=true:=e; rw [hk] at e; cases e),by show (x.aR.l++[nm]).length<=bB; simpa using p,by show (x.aB.l++[r]).length<=bB; simpa using m,
  fun h=>(h.elim g j).elim,a9.append (.cons hr .nil)⟩
def zI (M:Nat) (d:ak) (va:Z9) (li:Bool) (p:Option (((Z1×Z9)) ⊕ ((Z9×Int×Z1)))) (q:Option (Z3×Z9)):Prop :=
 (∃e c' k' x' b,e≠0/\p=some (Sum.inr (x',e,c'))/\q=some (k',b)/\k'.dh=e) \/
 (∃c' x' b,0<=c'/\c'<=4096/\p=some (Sum.inl (⟨d,va,li,c'⟩,x'))/\q=some (⟨d,va,li,c',0⟩,b)/\Rl M x' b)
def tN (b:Z9) (nm:Bs) (rec:Z1->Z9->Option (((Z1×Z9)) ⊕ ((Z9×Int×Z1)))) (e:Int) (c:Z1) (z:Z9):Option (((Z1×Z9)) ⊕ ((Z9×Int×Z1))) :=
 bif (!decide (e=(0:Int))) then(some (Sum.inr (zv,e,c))) else((bh 16 b.aR (⟨false,[nm]⟩:Sl Bs)).bind fun g=>(bh 80 b.aB (⟨false,[z]⟩:Sl Z9)).bind fun f=>rec c (Z9.mk b.ai b.bA b.bp f.nl f.l g))
def tO (b:Z9) (nm:Bs) (w:Z3) (z:Z9):Option (Z3×Z9) :=
 (bh 16 b.aR (⟨false,[nm]⟩:Sl Bs)).bind fun g=>(bh 80 b.aB (⟨false,[z]⟩:Sl Z9)).bind fun f=>some (w,(Z9.mk b.ai b.bA b.bp f.nl f.l g))
theorem Tt {M:Nat}{d:ak}{va:Z9}{li:Bool}{x y:Z9}{nm:Bs}{s:Z1->Z9->Option (((Z1×Z9)) ⊕ ((Z9×Int×Z1)))}{rr:Z3->Z9->Option (Z3×Z9)}
  (hx:Rl (M+1) x y) (B:x.ai≠3) (C:x.ai≠4) (f:x.aB.l.length+1<=bB) (g:x.aR.l.length+1<=bB)
  (E:∀w z,w.dh≠0->rr w z=some (w,z))
  (F:∀(c:Int) (x' t:Z9),0<=c/\c<=4096->Rl (M+1) x' t->x'.ai=x.ai->x'.aB.l.length=x.aB.l.length+1->x'.aR.l.length=x.aR.l.length+1->zI (M+1) d va li (s ⟨d,va,li,c⟩ x') (rr ⟨d,va,li,c,0⟩ t))
  {p:Option (Z9×Int×Z1)}{q:Option (Z9×Z3)}(h:l9 M d va li p q) :
  zI (M+1) d va li (p.bind fun r=>tN x nm s r.2.1 r.2.2 r.1) ((q.bind fun r=>tO y nm r.2 r.1).bind fun z=>rr z.1 z.2):=by
 have K:y.aB.l.length=x.aB.l.length:=hx.2.2.2.2.2.2.2.2.length.symm;have G:y.aR.l=x.aR.l:=hx.2.2.2.1.symm;have H:∀r:Z9,bh 80 x.aB (⟨false,[r]⟩:Sl Z9)=some ⟨x.aB.nl&&[r].isEmpty,x.aB.l++[r]⟩:=fun r=>tK (by unfold bB at f; simp; omega);have u:∀r:Z9,bh 80 y.aB (⟨false,[r]⟩:Sl Z9)=some ⟨y.aB.nl&&[r].isEmpty,y.aB.l++[r]⟩:=fun r=>tK (by unfold bB at f; simp; omega)
 have I:bh 16 x.aR (⟨false,[nm]⟩:Sl Bs)=some ⟨x.aR.nl&&[nm].isEmpty,x.aR.l++[nm]⟩:=yS (by omega) (by unfold bB at g; simp; omega);have v:bh 16 y.aR (⟨false,[nm]⟩:Sl Bs)=some ⟨y.aR.nl&&[nm].isEmpty,y.aR.l++[nm]⟩:=yS (by omega) (by rw [G]; unfold bB at g; simp; omega);rcases h with ⟨e,r,c',J,k',j,k,m,b⟩|⟨c',r,J,g1,g2,k,m,b⟩
 ·left
  rw [k,m];unfold tN tO;simp only [oB,v,u];rw [E _ _ (by rw [b]; exact j)];exact⟨e,c',k',zv,_,j,by simp [j],rfl,b⟩
 ·rw [k,m];unfold tN tO;simp only [oB,v,u,I,H,decide_true,Bool.not_true,cond_false];exact F c' _ _ ⟨g1,g2⟩ (Tr hx b B C f g (by simp)) rfl (by show (x.aB.l++[r]).length=_; simp) (by show (x.aR.l++[nm]).length=_; simp)
theorem KE (a1:ah) (a2:Z9) (a3:Int) (k k2:Z3->aL->Z9->Int->Option (Z9×Z3)) (l:List Z7) (i:Nat) (w:Z3) (x:Z9) (h:w.dh≠0):g_ a1 a2 a3 k k2 l i w x=some (w,x):=by
 cases l with
 | nil=>rfl
 | cons a t=>rw [g_]; simp [h]
theorem Tu (a1:ah) (a2:Z9) (a3:Int) (b:Z1->aL->Z9->Int->Option (Z9×Int×Z1)) (f:Z1->Z7->Int->Option (Z9×Int×Z1)) (h:Z7) (r:List Z7) (i:Nat) (c:Z1) (x:Z9) :
  iC a1 a2 a3 b f (h::r) i c x=bif (pO (⟨a1.aF.nl,a1.aF.l.take i⟩:Sl Z7) h.aa).2 then(iC a1 a2 a3 b f r (i+1) c x) else
   ((p5 a2 h.aa).bind fun g=>aZ (g.2) (vj c g.1) false fun m =>
    bif (g.2&&(!m)) then((cN a3 (1:Int)).bind fun p=>(b c h.av g.1 p).bind fun j=>tN x h.aa (iC a1 a2 a3 b f r (i+1)) j.2.1 j.2.2 j.1)
    else(bif h.ck then((cN a3 (1:Int)).bind fun q=>(f c h q).bind fun k=>tN x h.aa (iC a1 a2 a3 b f r (i+1)) k.2.1 k.2.2 k.1)
    else(bif jB h.av then(tN x h.aa (iC a1 a2 a3 b f r (i+1)) (22:Int) c Z9.zero) else(iC a1 a2 a3 b f r (i+1) c x)))):=by
 rw [iC]; rfl
theorem Tv (a1:ah) (a2:Z9) (a3:Int) (f g:Z3->aL->Z9->Int->Option (Z9×Z3)) (h:Z7) (r:List Z7) (i:Nat) (w:Z3) (x:Z9) (hw:w.dh=0) :
  g_ a1 a2 a3 f g (h::r) i w x=((xl a1.aF ((i:Nat):Int)).bind fun m=>Option.bind (bif m then(some (w,x)) else
   ((nj a2 h.aa).bind fun b=>aZ (b.2) (q7 w b.1) false fun p =>
    bif (b.2&&(!p)) then((cN a3 (1:Int)).bind fun q=>(f w h.av b.1 q).bind fun j=>tO x h.aa j.2 j.1)
    else(bif h.ck then((cN a3 (1:Int)).bind fun s=>(g w h.av h.cR s).bind fun k=>tO x h.aa k.2 k.1)
    else(bif iz h.av then(tO x h.aa (fq w (22:Int)) Z9.zero) else(some (w,x)))))) fun l=>g_ a1 a2 a3 f g r (i+1) l.1 l.2):=by
 rw [g_];simp only [hw,decide_true,cond_true];rfl
theorem Tx {N M n m:Nat}{d:ak}{f:Int}(P:N+1<=1099511627776) (bQ:q9 (N+1) M d n m (f+1)) (Q:E5 (N+1) M d n m (f+1)) (am:0<=f/\f<=1000){va:Z9}{li:Bool}{t:ah}{v w:Z9}
  (E:Rl (N+2) va va) (ht:l_ (N+1) t) (hv:Rl (N+1) v w) :
  ∀(l:List Z7) (i:Nat) (c:Int) (x y:Z9),t.aF.l.drop i=l->0<=c/\c<=4096->Rl (M+1) x y->x.ai=6->x.aB.l.length+l.length<=1048576->x.aR.l.length+l.length<=1048576 ->
   zI (M+1) d va li (iC t v f (fL n) (jE n) l i ⟨d,va,li,c⟩ x) (g_ t w f (eM m) (iB m) l i ⟨d,va,li,c,0⟩ y):=by
 intro l;induction l with
 | nil=>intro i c x y _ hc hx _ _ _; exact .inr ⟨c,x,y,hc.1,hc.2,rfl,rfl,hx⟩
 | cons h r F =>
  intro i c x y s hc hx g R S;simp only [List.length_cons] at R S;have G:i<t.aF.l.length:=by
   rcases Nat.lt_or_ge i t.aF.l.length with c|c
   ·exact c
   ·rw [List.drop_of_length_le c] at s; cases s
  have u:=List.drop_eq_getElem_cons G;rw [s] at u;simp only [List.cons.injEq] at u;obtain⟨hh,hr⟩:=u;have H:t.aF.l[i]?=some h:=by rw [List.getElem?_eq_getElem G,hh]
  have I:oA (N+1) h:=ht.2 h (List.mem_of_getElem? H);have B:x.ai≠3:=by rw [g]; decide
  have J:x.ai≠4:=by rw [g]; decide
  rw [Tu,Tv _ _ _ _ _ _ _ _ _ _ rfl,Tq t.aF i h H ht.1,zl,oB];have skip:=F (i+1) c x y hr.symm hc hx g (by omega) (by omega);have U:∀(c:Int) (x' j:Z9),0<=c/\c<=4096->Rl (M+1) x' j->x'.ai=x.ai->x'.aB.l.length=x.aB.l.length+1->x'.aR.l.length=x.aR.l.length+1 ->
    zI (M+1) d va li (iC t v f (fL n) (jE n) r (i+1) ⟨d,va,li,c⟩ x') (g_ t w f (eM m) (iB m) r (i+1) ⟨d,va,li,c,0⟩ j) :=
   fun c x' j h1 W B J ao=>F (i+1) c x' j hr.symm h1 W (B.trans g) (by omega) (by omega)
  have fin:∀{p q},l9 M d va li p q->_:=fun {p q} h1=>Tt (nm:=h.aa) (rr:=fun k z=>g_ t w f (eM m) (iB m) r (i+1) k z) (p:=p) (q:=q) hx B J (by unfold bB; omega) (by unfold bB; omega) (fun w z hw=>KE _ _ _ _ _ _ _ _ _ hw) U h1;have K:cN f (1:Int)=some (f+1):=iL (by omega);cases (dw (t.aF.l.take i) h.aa).2 with
  | true=>simp only [cond_true,oB]; exact skip
  | false =>
   simp only [cond_false];obtain⟨X,Y,b,Z,ab,ad⟩:=EX hv (by omega) h.aa;rw [Z,ab,oB,oB];have rest:zI (M+1) d va li
     (bif h.ck then((cN f (1:Int)).bind fun ae=>(jE n ⟨d,va,li,c⟩ h ae).bind fun C=>tN x h.aa (iC t v f (fL n) (jE n) r (i+1)) C.2.1 C.2.2 C.1)
      else(bif jB h.av then(tN x h.aa (iC t v f (fL n) (jE n) r (i+1)) (22:Int) ⟨d,va,li,c⟩ Z9.zero) else(iC t v f (fL n) (jE n) r (i+1) ⟨d,va,li,c⟩ x)))
     (Option.bind (bif h.ck then((cN f (1:Int)).bind fun aj=>(iB m ⟨d,va,li,c,0⟩ h.av h.cR aj).bind fun L=>tO y h.aa L.2 L.1)
      else(bif iz h.av then(tO y h.aa (fq ⟨d,va,li,c,0⟩ (22:Int)) Z9.zero) else(some (⟨d,va,li,c,0⟩,y)))) fun O=>g_ t w f (eM m) (iB m) r (i+1) O.1 O.2):=by
    cases hh:h.ck with
    | true =>
     simp only [cond_true,K,oB];exact fin (Q va li c h hc I hh)
    | false =>
     simp only [cond_false];rw [wW,w6];cases eZ h.av.aH.l with
     | true =>
      simp only [cond_true,xh];exact fin (p:=some (Z9.zero,22,⟨d,va,li,c⟩)) (q:=some (Z9.zero,⟨d,va,li,c,22⟩)) (.inl ⟨22,_,_,_,_,by decide,rfl,rfl,rfl⟩)
     | false=>simp only [cond_false,oB]; exact skip
   rcases ad with ⟨rfl,hg⟩|⟨rfl,ap,aq⟩
   ·obtain⟨al,m1,m2⟩:=Kw (n:=N+1) E P d li c hg;simp only [aZ,if_true,m1,m2,oB];cases al with
    | true=>simp only [Bool.not_true,Bool.and_false,cond_false]; exact rest
    | false =>
     simp only [Bool.not_false,Bool.and_true,cond_true,K,oB];exact fin (bQ va li c h.av h.av X Y E hc I.1 ⟨rfl,rfl⟩ (hg.mono (by omega)))
   ·simp only [aZ,Bool.false_eq_true,if_false,Bool.false_and,cond_false];exact rest
theorem Ty {N M n m:Nat}{d:ak}{b:Int}(s:N<=1099511627776) (bQ:q9 N M d n m (b+1)) (u:E5 N M d n m (b+1)) (y:0<=b/\b<=1000):E4 N (M+1) d (n+1) (m+1) b:=by
 intro va li c t v w z hc ht hv;obtain⟨N,rfl⟩:∃B,N=B+1:=by cases N with|zero=>exact hv.elim|succ N=>exact⟨N,rfl⟩
 have h0:Rl (M+1) (Z9.mk 6 0 [] true [] Sl.nil) (Z9.mk 6 0 [] true [] Sl.nil) :=
  ⟨rfl,⟨rfl,by show _<=(0:Int); decide,by show (0:Int)<=_; decide⟩,rfl,rfl,fun _=>rfl,by show 0<=_; omega,by show 0<=_; omega,fun h=>(by rcases h with h|h<;>cases h),.nil⟩
 rw [vm,lu,<- hv.1,<- hv.2.2.2.1];by_cases r:v.ai=6
 ·simp only [r,decide_true,Bool.not_true,cond_false,on];rcases To d va li c t v.aR.l with ⟨f,g⟩|⟨f,g⟩
  ·rw [f,g];rw [KE _ _ _ _ _ _ _ _ _ (by show (22:Int)≠0; decide)];exact .inl ⟨22,zv,_,_,_,by decide,rfl,rfl,rfl⟩
  ·rw [f,g];simp only;rcases Tx s bQ u y (li:=li) z ht hv t.aF.l 0 c _ _ (by simp) hc h0 rfl (by show 0+_<=_; have:=ht.1; omega) (by show 0+_<=_; have:=ht.1; omega) with ⟨e,c',k',x',j,C,k,p,q⟩|⟨c',x',j,g1,g2,k,p,q⟩
   ·rw [k,p]; exact .inl ⟨e,x',c',j,k',C,rfl,rfl,q⟩
   ·rw [k,p]; exact .inr ⟨c',x',j,g1,g2,rfl,rfl,q⟩
 ·simp only [r,decide_false,Bool.not_false,cond_true,on,xh];exact .inl ⟨23,_,_,_,_,by decide,rfl,rfl,rfl⟩
theorem E6 {N M n m:Nat}{d:ak}{f:Int}(L:N+1<=1099511627776) (k:N<=M) (y:1<=M) (z:∀s,l_ N (bl d.aj.l s).1) (O:0<=f/\f<=1000) (hl:f<=24->E3 N M d n m f) (B:f<=24->E4 N M d n m f):q9 N M d (n+1) (m+1) f:=by
 intro va li c t t' v w p hc ht he hv;rw [Tf,KB,EV,<- he.1];cases hi:ja d t.aa with
 | false=>exact .inl ⟨10,zv,_,zv,_,by decide,rfl,rfl,rfl⟩
 | true =>
  have hk:v.ai=w.ai:=by cases N with|zero=>exact hv.elim|succ N=>exact hv.1
  have G:v.bp=w.bp:=by cases N with|zero=>exact hv.elim|succ N=>exact hv.2.2.1
  have H:(li&&decide (w.ai=7))=(decide (v.ai=7)&&li):=by rw [hk,Bool.and_comm]
  simp only [Bool.not_true,cond_false,H];cases P:(decide (v.ai=7)&&li) with
  | false=>exact KD k y z hl B p hc ht he hk (fun _=>hv) hi
  | true =>
   simp only [cond_true];obtain⟨j,C,b,I,J,hg⟩:=EX p (by omega) v.bp;rw [<- G,I,J,oB,oB];have K:j.ai=C.ai:=by
    rcases hg with ⟨_,h⟩|⟨_,h1,E⟩
    ·cases N with|zero=>exact h.elim|succ N=>exact h.1
    ·rw [h1,E]
   simp only [<- K];by_cases g:j.ai=0
   ·simp only [g,decide_true,Bool.not_true,cond_false];exact KD k y z hl B p hc ht he g (fun h=>(h g).elim) hi
   ·simp only [g,decide_false,Bool.not_false,cond_true];have hr:Rl N j C:=by
     rcases hg with ⟨_,h⟩|⟨_,h1,E⟩
     ·exact h
     ·rw [h1] at g; exact(g rfl).elim
    unfold E1 E2;rcases Kv N hr F0 d va li c f (by rw [fR]; omega) hc (by omega) with ⟨e,c',x,k',F,q,r,u⟩|⟨c',x,g1,g2,q,r,u⟩
    ·rw [q,r];exact .inl ⟨e,zv,c',x,k',F,by simp [F],rfl,u⟩
    ·rw [q,r];exact .inr ⟨c',j,x,g1,g2,rfl,rfl,u.mono k⟩
theorem Tz {N:Nat}{d:ak}(f:N+1<=1099511627776) (g:∀s,l_ N (bl d.aj.l s).1):∀(k:Nat) (b:Int),1<=b/\b<=900->25<=b+k->∀n m,3*k+1<=n->3*k+1<=m->q9 N (N+k+1) d n m b:=by
 intro k;induction k with
 | zero =>
  intro b hl hk n m hn hm va li c t t' v w q hc ht he hv;obtain⟨n,rfl⟩:∃x,n=x+1:=⟨n-1,by omega⟩;obtain⟨m,rfl⟩:∃x,m=x+1:=⟨m-1,by omega⟩;exact E6 f (by omega) (by omega) g (by omega) (fun h=>by omega) (fun h=>by omega) va li c t t' v w q hc ht he hv
 | succ k j =>
  intro b hl hk n m hn hm;obtain⟨n,rfl⟩:∃x,n=x+3:=⟨n-3,by omega⟩;obtain⟨m,rfl⟩:∃x,m=x+3:=⟨m-3,by omega⟩;by_cases p:b<=24
  ·have a1:q9 N (N+k+1) d n m (b+1):=j (b+1) (by omega) (by omega) n m (by omega) (by omega);have a2:q9 N (N+k+1) d (n+1) (m+1) (b+1):=j (b+1) (by omega) (by omega) _ _ (by omega) (by omega);exact E6 f (by omega) (by omega) g (by omega) (fun _=>Tl a2 (by omega)) (fun _=>Ty (by omega) a2 (Tm a1) (by omega))
  ·exact E6 f (by omega) (by omega) g (by omega) (fun h=>(p h).elim) (fun h=>(p h).elim)
def E7 (M:Nat) (p q:Option (Z9×Int)):Prop:=∃x y e,p=some (x,e)/\q=some (y,e)/\Rl M x y
theorem TA {N M:Nat}(l:1<=M) (t:M<=1099511627776){d:ak}{va:Z9}{li:Bool}{p:Option (Z9×Int×Z1)}{q:Option (Z9×Z3)}(h:l9 M d va li p q) :
  E7 M (p.bind fun x=>tP x.1 x.2.1) (q.bind fun x=>bif (!decide (x.2.dh=(0:Int))) then some (zv,x.2.dh) else some (x.1,0)):=by
 rcases h with ⟨e,r,c',j,k',k,b,f,g⟩|⟨c',r,j,g1,g2,b,f,g⟩
 ·rw [b,f];refine⟨zv,zv,e, ?_, ?_,xf.mono l⟩
  ·unfold tP; simp [k]; rfl
  ·simp [g,k]
 ·rw [b,f];obtain⟨x,m,s⟩:=EW M g F0 (by rw [fR]; omega);refine⟨x,j,0, ?_,by simp,s⟩;unfold tP q6;simp [m]
theorem TB {N:Nat}{d:ak}(r:N+1<=1099511627000) (g:∀s,l_ N (bl d.aj.l s).1){va:Z9}{li:Bool}{t:aL}{v w:Z9}(j:Rl (N+1) va va) (ht:dZ t.aH) (hv:Rl N v w) :
  E7 (N+25) ((E8 ⟨d,va,li,0⟩ t v 1).bind fun b=>(tP b.1 b.2.1).bind fun f=>some (f.1,f.2)) ((rf ⟨d,va,li,0,0⟩ t w).bind fun x=>some (x.1,x.2.1)):=by
 have h:=Tz (by omega) g 24 1 (by omega) (by omega) F0 F0 (by rw [fR]; omega) (by rw [fR]; omega) va li 0 t t v w j (by omega) ht ⟨rfl,rfl⟩ hv;have k:=TA (N:=N) (by omega) (by omega) h;unfold rf E8 B7;obtain⟨x,y,e,m,p,q⟩:=k;refine⟨x,y,e, ?_, ?_,q⟩
 ·rw [<- m];cases fL F0 ⟨d,va,li,0⟩ t v 1 with
  | none=>rfl
  | some a=>simp only [oB]; cases tP a.1 a.2.1<;>rfl
 ·rw [<- p];cases eM F0 ⟨d,va,li,0,0⟩ t w 1 with
  | none=>rfl
  | some a=>simp only [oB]; cases (!decide (a.2.dh=(0:Int)))<;>rfl
theorem TC {N:Nat}{d:ak}(j:N+1<=1099511627000) (k:∀s,l_ N (bl d.aj.l s).1){va:Z9}{t:aL}{v w:Z9}(f:Rl (N+1) va va) (ht:dZ t.aH) (hv:Rl N v w) :
  E7 (N+25) (ri d t v va) (oE d t w va):=by
 unfold ri oE;obtain⟨b,m1,m2⟩:=Kw f (by omega) d true 0 hv;have g:=TB j k (li:=true) f ht hv;simp only [on,m1,oB,EV];cases hi:ja d t.aa with
 | false =>
  simp only [aZ,Bool.false_eq_true,if_false,Bool.false_and,cond_false,Bool.not_false,cond_true];cases b with
  | false=>simp only [cond_false]; exact g
  | true =>
   simp only [cond_true];refine⟨zv,zv,10,rfl, ?_,xf.mono (by omega)⟩;unfold rf B7;rw [show F0=4611686018427387903+1 from rfl,KB,EV,hi]; rfl
 | true =>
  simp only [aZ,if_true,m2,oB,Bool.true_and,Bool.not_true,cond_false];cases b with
  | false=>simp only [cond_false]; exact g
  | true=>simp only [cond_true]; exact⟨zv,zv,8,rfl,rfl,xf.mono (by omega)⟩
theorem TD {v:Z9}{b:Bool}(h:sX v b=some true) (hk:v.ai=3\/v.ai=4):v.bA=0/\v.aB.l=[]/\v.aR.l=[]:=by
 unfold sX at h;rcases hk with hk|hk
 ·simp [hk,on] at h;exact⟨h.1.1,h.1.2,h.2⟩
 ·simp only [hk,show decide ((4:Int)=0)=false from rfl,show decide ((4:Int)=1)=false from rfl,show decide ((4:Int)=2)=false from rfl,show decide ((4:Int)=3)=false from rfl,decide_true,cond_false,cond_true,on] at h;cases c:(((decide (v.bA=(0:Int)))&&(decide (((v.aB.l.length:Nat):Int)=(0:Int))))&&(decide (((v.aR.l.length:Nat):Int)=(0:Int)))) with
  | true=>simp at c; exact⟨c.1.1,c.1.2,c.2⟩
  | false=>rw [c] at h; simp at h
theorem TE (n:Nat):∀(v:Z9) (b:Bool),iA n v b=some true->v.wf->v.sz<=1048576->Rl n v v:=by
 induction n with
 | zero=>intro v b h; cases h
 | succ n p =>
  intro v b h hw s;rw [iA] at h;cases e:sX v b with
  | none=>rw [e] at h; cases h
  | some x =>
   cases x with
   | false=>rw [e] at h; cases h
   | true =>
    rw [e] at h;simp only [oB,Bool.not_true,cond_false,on] at h;have m:=(Z9.sF v).1 hw;have t:=v.bt;have hl:∀l:List Z9,kR b (iA n) l=some (Sum.inl ())->∀x∈l,iA n x b=some true:=by
     intro l;induction l with
     | nil=>intro _ x hx; cases hx
     | cons a r g =>
      intro h;rw [kR] at h;simp only [on] at h;cases e:iA n a b with
      | none=>simp [e] at h
      | some y =>
       cases y with
       | false=>simp [e] at h
       | true =>
        simp only [e,oB,Bool.not_true,cond_false] at h;intro x hx;rcases List.mem_cons.1 hx with rfl|hx
        ·exact e
        ·exact g h x hx
    have q:∀x∈v.aB.l,iA n x b=some true:=by
     cases j:rj b v.aR.l with
     | inr y=>rw [j] at h; simp only [Option.some.injEq] at h; subst h; exact absurd j (by
       intro j;have:∀l:List Bs,rj b l≠Sum.inr true:=by
        intro l;induction l with
        | nil=>intro h; cases h
        | cons a r g =>
         rw [rj]; simp only [on];cases (b&&!(bif b then eW (bif b then a else []) else false)) with
         | true=>intro h; cases h
         | false=>exact g
       exact this _ j)
     | inl _ =>
      rw [j] at h;simp only at h;cases k:kR b (iA n) v.aB.l with
      | none=>rw [k] at h; cases h
      | some z =>
       cases z with
       | inl _=>exact hl _ k
       | inr y =>
        rw [k] at h;simp only [oB,Option.some.injEq] at h;subst h;have:∀l:List Z9,kR b (iA n) l≠some (Sum.inr true):=by
         intro l;induction l with
         | nil=>intro h; cases h
         | cons a r g =>
          rw [kR]; simp only [on];cases iA n a b with
          | none=>intro h; cases h
          | some y =>
           cases y with
           | false=>intro h; cases h
           | true=>exact g
        exact(this _ k).elim
    have u:=Sl.eV (f:=Z9.sz) v.aB (fun x=>by have:=x.bt; omega);have w:=Sl.eV (f:=Bs.sz) v.aR (fun x=>Bs.mA x);have self:∀l:List Z9,(∀x∈l,Rl n x x)->aW (Rl n) l l:=by
     intro l;induction l with
     | nil=>intro _; exact .nil
     | cons a r g=>intro h; exact .cons (h a (by simp)) (g fun x hx=>h x (by simp [hx]))
    refine⟨rfl,⟨rfl,m.2.1⟩,rfl,rfl,m.2.2.2.2.1.1,by unfold bB; omega,by unfold bB; omega,TD e,self _ fun x hx=>p x b (q x hx) ?_ ?_⟩
    ·exact m.2.2.2.1.2.2 x hx
    ·have:=Sl.de (f:=Z9.sz) hx; omega
theorem TF {v:Z9}(h:gW v=some true):iA F0 v true=some true:=by
  unfold gW at h;obtain⟨a,_,h⟩:=bx h;rcases fT h with ⟨_,b,_,h⟩|⟨_,h⟩
  · rcases fT h with ⟨_,c,e,h⟩|⟨_,h⟩
    · simp at h; rw [h.2] at e; exact e
    · simp at h
  · rcases fT h with ⟨_,c,e,h⟩|⟨_,h⟩
    · simp at h; rw [h.2] at e; exact e
    · simp at h
theorem TG (l:List Z7) (z:Unit ⊕ Bool) (h:mI l=some z):(z=Sum.inl ()/\∀x∈l,x.ck=true->gW x.cR=some true)\/z=Sum.inr false:=by
  induction l generalizing z with
  | nil=>rw [mI] at h; exact .inl ⟨(oJ h).symm,fun a j=>by cases j⟩
  | cons a r k =>
    rw [mI] at h;simp only [on] at h;have step:∀(b:Bool),(a.ck=true->gW a.cR=some b)->∀f:Bool,(bif ((a.ck&&((!b)||(!f)))||((!a.ck)&&(!(bif (!(a.ck&&((!b)||(!f)))&&(!a.ck)) then B8 a.cR else false)))) then(some (Sum.inr false)) else(mI r))=some z ->
        (z=Sum.inl ()/\∀x∈a::r,x.ck=true->gW x.cR=some true)\/z=Sum.inr false:=by
      intro b e f h;rcases gm h with ⟨_,h⟩|⟨hc,h⟩
      · exact .inr (oJ h).symm
      · rcases k z h with ⟨h1,m⟩|h1
        · refine .inl ⟨h1,fun x hx hh=>?_⟩
          rcases List.mem_cons.1 hx with rfl|hx
          · have:=e hh
            rw [hh] at hc;cases b with
            | true=>exact this
            | false=>simp at hc
          · exact m x hx hh
        · exact .inr h1
    rcases fT h with ⟨_,p,_,h⟩|⟨_,h⟩<;>rcases fT h with ⟨_,q,_,h⟩|⟨_,h⟩<;>rcases gm h with ⟨_,h⟩|⟨_,h⟩;all_goals first
      | exact .inr (oJ h).symm
      | (rcases fT h with ⟨_,b,g,h⟩|⟨g,h⟩
         · rcases fT h with ⟨_,f,_,h⟩|⟨_,h⟩
           · exact step b (fun _=>g) f h
           · exact step b (fun _=>g) false h
         · rcases fT h with ⟨_,f,_,h⟩|⟨_,h⟩
           · exact step false (fun hh=>by rw [hh] at g; cases g) f h
           · exact step false (fun hh=>by rw [hh] at g; cases g) false h)
theorem KF {s:Sl Z7}(h:qQ s=some true):∀x∈s.l,x.ck=true->gW x.cR=some true:=by
  unfold qQ at h;rcases gm h with ⟨_,h⟩|⟨_,h⟩
  · cases h
  · obtain⟨z,g,h⟩:=bx h
    rcases TG _ _ g with ⟨_,h1⟩|rfl
    · exact h1
    · cases h
theorem TH {t:ah}(h:lR t=some true):∀x∈t.aF.l,x.ck=true->gW x.cR=some true:=by
  have nil:t.aF.l=[]->∀x∈t.aF.l,x.ck=true->gW x.cR=some true:=fun e x hx=>by rw [e] at hx; cases hx
  have fin:∀c:Bool,(some (c&&decide (((t.aF.l.length:Nat):Int)=(0:Int))))=some true->t.aF.l=[]:=fun c h=>by
    simp at h; exact h.2
  unfold lR at h;simp only [on] at h;rcases fT h with ⟨_,x5,_,h⟩|⟨_,h⟩<;>rcases gm h with ⟨_,h⟩|⟨_,h⟩;all_goals first
    | (cases h; done)
    | (cases e:n9 t.aM.l with
       | inr y=>rw [e] at h; have:=Es _ _ e; subst this; cases h
       | inl _ =>
         rw [e] at h;simp only at h;rcases gm h with ⟨_,h⟩|⟨_,h⟩
         · obtain⟨b,_,h⟩:=bx h
           exact nil (fin _ h)
         · rcases gm h with ⟨_,h⟩|⟨_,h⟩
           · rcases fT h with ⟨_,x,_,h⟩|⟨_,h⟩<;>exact nil (fin _ h)
           · rcases gm h with ⟨_,h⟩|⟨_,h⟩
             · rcases fT h with ⟨_,x,_,h⟩|⟨_,h⟩<;>exact nil (fin _ h)
             · rcases gm h with ⟨_,h⟩|⟨_,h⟩
               · rcases fT h with ⟨_,x,_,h⟩|⟨_,h⟩<;>exact nil (fin _ h)
               · rcases gm h with ⟨_,h⟩|⟨_,h⟩
                 · rcases fT h with ⟨_,x,ex,h⟩|⟨_,h⟩
                   · simp at h; rw [h.2] at ex; exact KF ex
                   · simp at h
                 · cases h)
theorem TJ {α:Type}{R S:α->α->Prop}{l:List α}(h:aW R l l) (hi:∀x∈l,R x x->S x x):aW S l l :=
 aW.jV rfl fun i x y h1 b=>by
  rw [h1] at b; simp only [Option.some.injEq] at b; subst b;obtain⟨y,f,g⟩:=h.get h1;rw [h1] at f; simp only [Option.some.injEq] at f; subst f;exact hi x (List.mem_of_getElem? h1) g
theorem Rl.small:∀(m n:Nat){v:Z9},Rl n v v->v.sz<=m->Rl m v v
 | 0,_,v,_,hm=>by have:=v.pos; omega
 | _+1,0,_,h,_=>h.elim
 | m+1,n+1,v,⟨a,b,c,d,e,f,g,i,k⟩,hm=>⟨a,b,c,d,e,f,g,i,TJ k fun x hx h=>Rl.small m n h (by have:=Z9.kQ hx; omega)⟩
def nB:Nat:=1048576
theorem TL {v:Z9}(h:gW v=some true) (hw:v.wf) (b:v.sz<=1048576):Rl nB v v:=Rl.small _ _ (TE F0 v true (TF h) hw b) b
theorem TM {t:aL}(hw:t.wf) (b:t.sz<=1048576):dZ t.aH:=⟨hw.2.1.1,by have:=aL.s_ t; omega⟩
theorem KG {x:Z7}(hl:x.ck=true->gW x.cR=some true) (hw:x.wf) (b:x.sz<=1048576):oA nB x:=by
 have:=x.bt;exact⟨TM hw.2.1 (by omega),fun h=>TL (hl h) hw.2.2.2.1 (by omega)⟩
theorem TN {t:ah}(hl:∀x∈t.aF.l,x.ck=true->gW x.cR=some true) (hw:t.wf) (b:t.sz<=1048576):l_ nB t:=by
 have h1:=t.bt;have g:=Sl.eV (f:=Z7.sz) t.aF (fun x=>x.pos);exact⟨by omega,fun x hx=>KG (hl x hx) (hw.2.2.2.2.2.2.1.2.2 x hx) (by have:=Sl.de (f:=Z7.sz) hx; omega)⟩
theorem TO (l:List Z6) (z:Unit ⊕ Bool) (h:mJ l=some z):(z=Sum.inl ()/\∀f∈l,∀x∈f.ay.l,x.ck=true->gW x.cR=some true)\/z=Sum.inr false:=by
  induction l generalizing z with
  | nil=>rw [mJ] at h; exact .inl ⟨(oJ h).symm,fun a j=>by cases j⟩
  | cons a r k =>
    rw [mJ] at h;simp only [on] at h;cases hn:eW a.aa with
    | false =>
      rw [hn] at h;simp [aZ] at h;exact .inr h.symm
    | true =>
      rw [hn] at h;simp only [Bool.not_true,Bool.not_false,cond_true,Bool.false_or] at h;rcases fT h with ⟨_,y,m,h⟩|⟨g,_⟩
      · cases y with
        | false=>simp [aZ] at h; exact .inr h.symm
        | true =>
          simp only [Bool.not_true,Bool.not_false,cond_true,Bool.false_or] at h;have p:=KF m;have fin:∀b:Bool,(bif b then some (Sum.inr false) else mJ r)=some z->(z=Sum.inl ()/\∀f∈a::r,∀x∈f.ay.l,x.ck=true->gW x.cR=some true)\/z=Sum.inr false:=by
            intro b h;cases b with
            | true=>exact .inr (oJ h).symm
            | false =>
              rcases k z h with ⟨h1,q⟩|h1
              · exact .inl ⟨h1,fun f g=>by rcases List.mem_cons.1 g with rfl|g; exact p; exact q f g⟩
              · exact .inr h1
          rcases fT h with ⟨_,w,_,h⟩|⟨_,h⟩<;>rcases fT h with ⟨_,u,_,h⟩|⟨_,h⟩<;>exact fin _ h
      · cases g
theorem KH {s:Sl Z6}(h:pL s=some true):∀f∈s.l,∀x∈f.ay.l,x.ck=true->gW x.cR=some true:=by
  unfold pL at h;rcases gm h with ⟨_,h⟩|⟨_,h⟩
  · cases h
  · obtain⟨z,g,h⟩:=bx h
    rcases TO _ _ g with ⟨_,h1⟩|rfl
    · exact h1
    · cases h
theorem TP {t:ah}(h:lR t=some true):∀f∈t.aq.l,∀x∈f.ay.l,x.ck=true->gW x.cR=some true:=by
  have nil:t.aq.l.length=0->∀f∈t.aq.l,∀x∈f.ay.l,x.ck=true->gW x.cR=some true:=fun e f b=>by
    rw [List.length_eq_zero_iff] at e; rw [e] at b; cases b
  unfold lR at h;simp only [on] at h;rcases fT h with ⟨_,x5,_,h⟩|⟨_,h⟩<;>rcases gm h with ⟨_,h⟩|⟨_,h⟩;all_goals first
    | (cases h; done)
    | (cases e:n9 t.aM.l with
       | inr y=>rw [e] at h; have:=Es _ _ e; subst this; cases h
       | inl _ =>
         rw [e] at h;simp only at h;rcases gm h with ⟨_,h⟩|⟨_,h⟩
         · obtain⟨j,g,h⟩:=bx h
           simp at h; rw [h.1.1] at g; exact KH g
         · rcases gm h with ⟨_,h⟩|⟨_,h⟩
           · rcases fT h with ⟨_,x,g,h⟩|⟨_,h⟩
             · simp at h; rw [h.1.1.2] at g; exact KH g
             · simp at h
           · rcases gm h with ⟨_,h⟩|⟨_,h⟩
             · rcases fT h with ⟨_,x,g,h⟩|⟨_,h⟩<;>simp at h
               exact nil (by rw [h.1.1.2]; rfl)
             · rcases gm h with ⟨_,h⟩|⟨_,h⟩
               · rcases fT h with ⟨_,x,g,h⟩|⟨_,h⟩<;>simp at h
                 exact nil (by rw [h.1.1.2]; rfl)
               · rcases gm h with ⟨_,h⟩|⟨_,h⟩
                 · rcases fT h with ⟨_,x,g,h⟩|⟨_,h⟩<;>simp at h
                   exact nil (by rw [h.1.1.1.2]; rfl)
                 · cases h)
def js (d:ak) (x:Z7) (p:Bs):List Z5:=bif x.ck then(match ri d x.av x.cR zv with|some y=>bif decide (y.2=0) then [] else [Z5.mk 23 p]|none=>[]) else []
theorem tQ (d:ak) (x:Z7) (p:Bs):(js d x p).length<=1:=by
 unfold js;cases x.ck with
 | false=>simp
 | true =>
  cases ri d x.av x.cR zv with
  | none=>simp
  | some y =>
   simp only [cond_true];cases decide (y.2=0) with
   | true=>simp
   | false=>simp
def Good (d:ak) (x:Z7):Prop:=x.sz<=1048576/\(x.ck=true->∃v w e,ri d x.av x.cR zv=some (v,e)/\oE d x.av x.cR zv=some (w,e))
theorem B9 {α:Type}(g:α->List Z5) (h:∀x,(g x).length<=1):∀l:List α,(l.flatMap g).length<=l.length
 | []=>by simp
 | a::r=>by have:=B9 g h r; have:=h a; simp only [List.flatMap_cons,List.length_append,List.length_cons]; omega
theorem KI {d:ak}{x:Z7}(hx:Good d x) (p:Bs) (s:Sl Z5) (g:s.l.length<=549755813888):∃t,xm x p d s=some t/\t.l=s.l++js d x p:=by
 unfold xm js;cases hh:x.ck with
 | false=>exact⟨s,rfl,by simp⟩
 | true =>
  obtain⟨v,w,e,b,_⟩:=hx.2 hh;have f:ri d x.av x.cR (Z9.mk 0 0 [] true [] Sl.nil)=some (v,e):=b;rw [Bool.not_true,cond_false,f,b,oB];simp only [cond_true];cases decide (e=0) with
  | true=>exact⟨s,rfl,by simp⟩
  | false=>simp only [Bool.not_false,cond_true,cond_false]; rw [jk (by decide) (by show s.l.length+1<=_; omega)]; exact⟨_,rfl,rfl⟩
theorem E9 (x:Z7) (h:x.sz<=1048576):x.aa.length<=1048576:=by
 have h1:=x.bt; have b:Bs.sz x.aa=x.aa.length+1:=rfl; omega
def E_ (p n:Bs):Bs:=p++[40]++n++[41]
theorem TQ (d:ak) (b:ah) (f:Z6) (h1:b.aa.length<=1048576) (y:f.aa.length<=1048576):∀(l:List Z7) (s:Sl Z5),(∀x∈l,Good d x)->s.l.length+l.length<=549755813888 ->
  ∃t,tR d b f l s=some t/\t.l=s.l++l.flatMap fun x=>js d x (E_ (b.aa++[46]++f.aa) x.aa):=by
 intro l;induction l with
 | nil=>intro s _ _; exact⟨s,rfl,by simp⟩
 | cons a r k =>
  intro s hx m;simp only [List.length_cons] at m;have g:=hx a (by simp);have hn:=E9 a g.1;rw [tR];simp only [on];rw [cI (by simp only [List.length_append,List.length_cons,List.length_nil]; omega),oB,cI (by simp only [List.length_append,List.length_cons,List.length_nil]; omega),oB,cI (by simp only [List.length_append,List.length_cons,List.length_nil]; omega),oB,cI (by simp only [List.length_append,List.length_cons,List.length_nil]; omega),oB,cI (by simp only [List.length_append,List.length_cons,List.length_nil]; omega),oB]
  obtain⟨t,p,j⟩:=KI g (b.aa++[46]++f.aa++[40]++a.aa++[41]) s (by omega);rw [p,oB];obtain⟨u,q,v⟩:=k t (fun x w=>hx x (by simp [w])) (by rw [j,List.length_append]; have:=tQ d a (b.aa++[46]++f.aa++[40]++a.aa++[41]); omega);exact⟨u,q,by rw [v,j,List.flatMap_cons,List.append_assoc]; rfl⟩
theorem TR (d:ak) (b:ah) (h1:b.aa.length<=1048576):∀(l:List Z7) (s:Sl Z5),(∀x∈l,Good d x)->s.l.length+l.length<=549755813888 ->
  ∃t,rm d b l s=some t/\t.l=s.l++l.flatMap fun x=>js d x (b.aa++[46]++x.aa):=by
 intro l;induction l with
 | nil=>intro s _ _; exact⟨s,rfl,by simp⟩
 | cons a r j =>
  intro s hx k;simp only [List.length_cons] at k;have f:=hx a (by simp);have hn:=E9 a f.1;rw [rm];simp only [on];rw [cI (by simp only [List.length_append,List.length_cons,List.length_nil]; omega),oB,cI (by simp only [List.length_append,List.length_cons,List.length_nil]; omega),oB];obtain⟨t,m,g⟩:=KI f (b.aa++[46]++a.aa) s (by omega)
  rw [m,oB];obtain⟨u,p,q⟩:=j t (fun x v=>hx x (by simp [v])) (by rw [g,List.length_append]; have:=tQ d a (b.aa++[46]++a.aa); omega);exact⟨u,p,by rw [q,g,List.flatMap_cons,List.append_assoc]⟩
theorem TS (d:ak) (p o n:Bs) (h1:p.length<=4194304) (H:o.length<=4) (I:n.length<=4):∀(l:List Z7) (s:Sl Z5),(∀x∈l,Good d x)->s.l.length+l.length<=549755813888 ->
  ∃t,rp d p o n l s=some t/\t.l=s.l++l.flatMap fun x=>js d x (p++o++x.aa++n):=by
 intro l;induction l with
 | nil=>intro s _ _; exact⟨s,rfl,by simp⟩
 | cons a r j =>
  intro s hx k;simp only [List.length_cons] at k;have g:=hx a (by simp);have hn:=E9 a g.1;rw [rp];simp only [on];have step:∃t,(bif (!a.ck) then(some s) else((oE d a.av a.cR (Z9.mk 0 0 [] true [] Sl.nil)).bind fun m=>bif (!decide (m.2=(0:Int))) then((a_ p o).bind fun q=>(a_ q a.aa).bind fun y=>(a_ y n).bind fun z=>(bh 24 s (⟨false,[(Z5.mk 23 z)]⟩:Sl Z5)).bind fun B=>some B) else(some s)))=some t/\t.l=s.l++js d a (p++o++a.aa++n):=by
   unfold js;cases hh:a.ck with
   | false=>exact⟨s,rfl,by simp⟩
   | true =>
    obtain⟨v,w,e,f,b⟩:=g.2 hh;have C:oE d a.av a.cR (Z9.mk 0 0 [] true [] Sl.nil)=some (w,e):=b;rw [Bool.not_true,cond_false,C,f,oB];simp only [cond_true];cases decide (e=0) with
    | true=>exact⟨s,rfl,by simp⟩
    | false =>
     simp only [Bool.not_false,cond_true,cond_false];rw [cI (by omega),oB,cI (by simp only [List.length_append]; omega),oB,cI (by simp only [List.length_append]; omega),oB,jk (by decide) (by show s.l.length+1<=_; omega)];exact⟨_,rfl,rfl⟩
  obtain⟨t,f,b⟩:=step;rw [f,oB];obtain⟨u,E,F⟩:=j t (fun x G=>hx x (by simp [G])) (by rw [b,List.length_append]; have:=tQ d a (p++o++a.aa++n); omega);exact⟨u,E,by rw [F,b,List.flatMap_cons,List.append_assoc]⟩
theorem KJ (d:ak) (s:Sl Z7) (p o n:Bs) (h1:p.length<=4194304) (b:o.length<=4) (f:n.length<=4) (hx:∀x∈s.l,Good d x) (k:s.l.length<=1048576):∃t,vn d s p o n=some t/\t.l=s.l.flatMap fun x=>js d x (p++o++x.aa++n):=by
 unfold vn;obtain⟨t,g,j⟩:=TS d p o n h1 b f s.l (Sl.nil:Sl Z5) hx (by simp [Sl.nil]; omega);rw [g,oB];exact⟨t,rfl,by rw [j]; simp [Sl.nil]⟩
def fF (d:ak) (t:ah) (f:Z6):List Z5:=f.ay.l.flatMap fun x=>js d x (E_ (t.aa++[46]++f.aa) x.aa)
def fI (d:ak) (t:ah):List Z5:=t.aF.l.flatMap fun x=>js d x (t.aa++[46]++x.aa)
def fD (d:ak) (t:ah):List Z5:=t.aq.l.flatMap (fF d t)++fI d t
def vp (d:ak) (f:Z6):Prop:=f.sz<=1048576/\∀x∈f.ay.l,Good d x
def B_ (d:ak) (t:ah):Prop:=t.sz<=1048576/\(∀f∈t.aq.l,vp d f)/\∀x∈t.aF.l,Good d x
theorem Fa {d:ak}{f:Z6}(h:vp d f):f.aa.length<=1048576/\f.ay.l.length<=f.sz:=by
 have h1:=f.bt; have b:Bs.sz f.aa=f.aa.length+1:=rfl;have g:=Sl.eV (f:=Z7.sz) f.ay (fun x=>x.pos);have j:=h.1;exact⟨by omega,by omega⟩
theorem KK {d:ak}{t:ah}(h:B_ d t):t.aa.length<=1048576/\t.aF.l.length+(t.aq.l.map Z6.sz).sum<=t.sz:=by
 have h1:=t.bt; have b:Bs.sz t.aa=t.aa.length+1:=rfl;have g:=Sl.eV (f:=Z7.sz) t.aF (fun x=>x.pos);have j:=h.1;have k:Sl.sz Z6.sz t.aq=1+(t.aq.l.map Z6.sz).sum:=rfl;exact⟨by omega,by omega⟩
theorem Ca {d:ak}{t:ah}{f:Z6}(h:vp d f):(fF d t f).length<=f.sz:=by
 have:=B9 (fun x:Z7=>js d x (E_ (t.aa++[46]++f.aa) x.aa)) (fun x=>tQ _ _ _) f.ay.l;have:=(Fa h).2;unfold fF; omega
theorem TT (d:ak) (t:ah) (h1:t.aa.length<=1048576):∀(l:List Z6) (s:Sl Z5),(∀f∈l,vp d f)->s.l.length+(l.map Z6.sz).sum<=549755813888 ->
  ∃u,rq d t l s=some u/\u.l=s.l++l.flatMap (fF d t):=by
 intro l;induction l with
 | nil=>intro s _ _; exact⟨s,rfl,by simp⟩
 | cons a r j =>
  intro s hx k;simp only [List.map_cons,List.sum_cons] at k;have b:=hx a (by simp);obtain⟨f1,f2⟩:=Fa b;rw [rq];simp only [on];obtain⟨u,m,g⟩:=TQ d t a h1 f1 a.ay.l s b.2 (by omega);rw [m,oB];have hl:=Ca (t:=t) b;obtain⟨w,p,q⟩:=j u (fun x v=>hx x (by simp [v])) (by rw [g,List.length_append]; unfold fF at hl; omega);exact⟨w,p,by rw [q,g,List.flatMap_cons,List.append_assoc]; rfl⟩
theorem TU (d:ak) (t:ah) (h1:t.aa.length<=1048576):∀(l:List Z6) (s:Sl Z5),(∀f∈l,vp d f)->s.l.length+(l.map Z6.sz).sum<=549755813888 ->
  ∃u,tT d t l s=some u/\u.l=s.l++l.flatMap (fF d t):=by
 intro l;induction l with
 | nil=>intro s _ _; exact⟨s,rfl,by simp⟩
 | cons a r j =>
  intro s hx k;simp only [List.map_cons,List.sum_cons] at k;have b:=hx a (by simp);obtain⟨f1,f2⟩:=Fa b;rw [tT];simp only [on];rw [cI (by simp only [List.length_cons,List.length_nil]; omega),oB,cI (by simp only [List.length_append,List.length_cons,List.length_nil]; omega),oB];obtain⟨u,m,p⟩:=KJ d a.ay (t.aa++[46]++a.aa) [40] [41] (by simp only [List.length_append,List.length_cons,List.length_nil]; omega) (by simp) (by simp) b.2 (by have:=b.1; omega)
  have hl:=Ca (t:=t) b;have g:u.l=fF d t a:=p;rw [m,oB,jk (by decide) (by rw [g]; omega),oB];obtain⟨w,q,v⟩:=j ⟨s.nl&&u.l.isEmpty,s.l++u.l⟩ (fun x y=>hx x (by simp [y])) (by show (s.l++u.l).length+_<=_; rw [g,List.length_append]; omega);exact⟨w,q,by rw [v,g,List.flatMap_cons,List.append_assoc]⟩
theorem TV (d:ak):∀(l:List ah) (s:Sl Z5),(∀t∈l,B_ d t)->s.l.length+(l.map ah.sz).sum<=549755813888->∃u,p7 d l s=some u/\u.l=s.l++l.flatMap (fD d):=by
 intro l;induction l with
 | nil=>intro s _ _; exact⟨s,rfl,by simp⟩
 | cons a r m =>
  intro s hx p;simp only [List.map_cons,List.sum_cons] at p;have g:=hx a (by simp);obtain⟨f1,f2⟩:=KK g;rw [p7];simp only [on];obtain⟨u,q,j⟩:=TT d a f1 a.aq.l s g.2.1 (by omega);have H:(a.aq.l.flatMap (fF d a)).length<=(a.aq.l.map Z6.sz).sum:=by
   have:∀l:List Z6,(∀f∈l,vp d f)->(l.flatMap (fF d a)).length<=(l.map Z6.sz).sum:=by
    intro l;induction l with
    | nil=>intro _; simp
    | cons b t y=>intro h; have:=y fun f z=>h f (by simp [z]); have:=Ca (t:=a) (h b (by simp)); simp only [List.flatMap_cons,List.length_append,List.map_cons,List.sum_cons]; omega
   exact this _ g.2.1
  rw [q,oB];obtain⟨v,B,k⟩:=TR d a f1 a.aF.l u g.2.2 (by rw [j,List.length_append]; omega);rw [B,oB];have C:(fI d a).length<=a.aF.l.length:=B9 _ (fun x=>tQ _ _ _) _;obtain⟨w,E,F⟩:=m v (fun x G=>hx x (by simp [G])) (by rw [k,j,List.length_append,List.length_append]; unfold fI at C; omega);exact⟨w,E,by rw [F,k,j,List.flatMap_cons]; unfold fD fI; simp only [List.append_assoc]⟩
theorem TW (d:ak):∀(l:List ah) (s:Sl Z5),(∀t∈l,B_ d t)->s.l.length+(l.map ah.sz).sum<=549755813888->∃u,p8 d l s=some u/\u.l=s.l++l.flatMap (fD d):=by
 intro l;induction l with
 | nil=>intro s _ _; exact⟨s,rfl,by simp⟩
 | cons a r m =>
  intro s hx p;simp only [List.map_cons,List.sum_cons] at p;have g:=hx a (by simp);have H:=g.1;obtain⟨f1,f2⟩:=KK g;rw [p8];simp only [on];obtain⟨u,q,j⟩:=TU d a f1 a.aq.l s g.2.1 (by omega);have I:(a.aq.l.flatMap (fF d a)).length<=(a.aq.l.map Z6.sz).sum:=by
   have:∀l:List Z6,(∀f∈l,vp d f)->(l.flatMap (fF d a)).length<=(l.map Z6.sz).sum:=by
    intro l;induction l with
    | nil=>intro _; simp
    | cons b t y=>intro h; have:=y fun f z=>h f (by simp [z]); have:=Ca (t:=a) (h b (by simp)); simp only [List.flatMap_cons,List.length_append,List.map_cons,List.sum_cons]; omega
   exact this _ g.2.1
  rw [q,oB];obtain⟨v,B,C⟩:=KJ d a.aF a.aa [46] [] (by omega) (by simp) (by simp) g.2.2 (by omega);have k:v.l=fI d a:=by rw [C]; unfold fI; simp only [List.append_nil]
  have J:(fI d a).length<=a.aF.l.length:=B9 _ (fun x=>tQ _ _ _) _;rw [B,oB,jk (by decide) (by rw [k,j,List.length_append]; omega),oB];obtain⟨w,E,F⟩:=m ⟨u.nl&&v.l.isEmpty,u.l++v.l⟩ (fun x G=>hx x (by simp [G])) (by show (u.l++v.l).length+_<=_; rw [k,j,List.length_append,List.length_append]; omega);exact⟨w,E,by rw [F,k,j,List.flatMap_cons]; unfold fD; simp only [List.append_assoc]⟩
theorem TX:nB+1<=1099511627000:=by unfold nB; omega
theorem TY (d:ak) (t:ah) (f:Z6):(fF d t f).length<=f.sz:=by
 have h1:=EQ f;have b:(fF d t f).length<=(f.ay.l.map fun _=>1).sum:=qX (fun _=>tQ _ _ _) _;rw [EP] at b; omega
theorem TZ (d:ak) (t:ah):(fD d t).length<=t.sz:=by
 have h1:=t.bt;have g:=Sl.iY (f:=Z7.sz) t.aF Z7.pos;have b:(fI d t).length<=(t.aF.l.map fun _=>1).sum:=qX (fun _=>tQ _ _ _) _;rw [EP] at b;have j:(t.aq.l.flatMap (fF d t)).length<=(t.aq.l.map Z6.sz).sum:=qX (TY d t) _;have k:Sl.sz Z6.sz t.aq=1+(t.aq.l.map Z6.sz).sum:=rfl;unfold fD;rw [List.length_append]; omega
theorem Fb {d:ak}(k:d.sz<=1048576) (hw:d.wf):∀t∈d.aj.l,k_ t:=by
 have p:=RV k hw;have h0:=d.bt;have b:∀s:Bs,Bs.sz s=s.length+1:=fun _=>rfl;intro t ht;have h1:=Sl.de (f:=ah.sz) ht;have q:=t.bt;rw [b] at q;refine⟨by omega,fun f j=>?_,fun m hm=>?_⟩
 ·have r:=Sl.de (f:=Z6.sz) j;have g:=f.bt;rw [b] at g;refine⟨by omega,fun a u=>?_,((p t ht).2.2.1 f j).1⟩;have w:=Sl.de (f:=Z7.sz) u;have v:=a.bt;rw [b] at v;omega
 ·have r:=Sl.de (f:=Z8.sz) hm;have g:=m.bt;rw [b] at g;omega
theorem Fc {s r:Sl Z5}(h:s.l.length+r.l.length<=5000000000000):bh 24 s r=some ⟨s.nl&&r.l.isEmpty,s.l++r.l⟩:=by
 unfold bh; rw [if_pos]; unfold cA; omega
theorem KL:∀(l:List Z6) (s:Int),0<=s->s+((l.map Z6.sz).sum:Nat)<=1073741824->∃r,tU l s=some r/\s<=r/\r<=s+((l.map Z6.sz).sum:Nat)/\∀f∈l,s+(f.ay.l.length:Nat)<=r
 | [],s,_,_=>⟨s,rfl,by omega,by simp,fun _ h=>by cases h⟩
 | f::l,s,h0,b=>by
  simp only [List.map_cons,List.sum_cons] at b ⊢;have h1:=f.bt;have j:=Sl.eV (f:=Z7.sz) f.ay (fun x=>Z7.pos x);have k:=Sl.eV (f:=aA.sz) f.bf (fun x=>aA.pos x);rw [tU];simp only [on];rw [iL (by omega),oB,iL (by omega),oB];obtain⟨r,e,a1,a2,a3⟩:=KL l (s+(((f.ay.l.length:Nat):Int)+((f.bf.l.length:Nat):Int))) (by omega) (by omega)
  refine⟨r,e,by omega,by omega,fun g hg=>?_⟩;rcases List.mem_cons.1 hg with rfl|hg
  ·omega
  ·have:=a3 g hg; omega
theorem KM:∀(l:List ah) (s:Int),0<=s->s+2*((l.map ah.sz).sum:Nat)<=1073741824->∃r,ru l s=some r/\s<=r/\(r<=1000->∀x∈l,Sm x)
 | [],s,_,_=>⟨s,rfl,by omega,fun _ _ h=>by cases h⟩
 | x::l,s,h0,g=>by
  simp only [List.map_cons,List.sum_cons] at g;have h1:=x.bt;have p:=Sl.eV (f:=Z6.sz) x.aq (fun x=>Z6.pos x);have q:=Sl.eV (f:=Z8.sz) x.ax (fun x=>Z8.pos x);have t:=Sl.eV (f:=Z7.sz) x.aF (fun x=>Z7.pos x);have u:=Sl.eV (f:=aA.sz) x.bf (fun x=>aA.pos x);have v:=Sl.eV (f:=Bs.sz) x.aM (fun x=>Bs.mA x);have w:Sl.sz Z6.sz x.aq=1+(x.aq.l.map Z6.sz).sum:=rfl
  rw [ru];simp only [on];rw [iL (by omega),oB,iL (by omega),oB,iL (by omega),oB,iL (by omega),oB,iL (by omega),oB,iL (by omega),oB];obtain⟨z,e,a1,a2,a3⟩:=KL x.aq.l _ (show 0<=s+((((((1:Int)+((x.aq.l.length:Nat):Int))+((x.ax.l.length:Nat):Int))+((x.aF.l.length:Nat):Int))+((x.bf.l.length:Nat):Int))+((x.aM.l.length:Nat):Int)) by omega) (by omega)
  rw [e,oB];obtain⟨r,j,B,k⟩:=KM l z (by omega) (by omega);refine⟨r,j,by omega,fun hr y b=>?_⟩;rcases List.mem_cons.1 b with rfl|b
  ·exact⟨by omega,by omega,by omega,by omega,fun f m=>by have:=a3 f m; omega⟩
  ·exact k hr y b
theorem T0 {d:ak}(j:d.sz<=1048576):∃b,zJ d=some b/\(b=false->d.aj.l.length<=70/\∀x∈d.aj.l,Sm x):=by
 have h1:=d.bt;have k:Sl.sz ah.sz d.aj=1+(d.aj.l.map ah.sz).sum:=rfl;unfold zJ;by_cases h:d.aj.l.length<=70
 ·rw [show decide ((70:Int)<((d.aj.l.length:Nat):Int))=false from dF (by omega),cond_false];obtain⟨r,e,m,f⟩:=KM d.aj.l 0 (by omega) (by omega);rw [e,oB];simp only [on];exact⟨_,rfl,fun g=>⟨h,f (by have:=of_decide_eq_false g; omega)⟩⟩
 ·rw [show decide ((70:Int)<((d.aj.l.length:Nat):Int))=true from dT (by omega)];exact⟨true,rfl,fun h=>by cases h⟩
def bF {α:Type}(l:List α):Sl α:=⟨l.isEmpty,l⟩
noncomputable def cn:Z9->Z9:=@Z9.rec (fun _=>Z9) (fun _=>List Z9) (fun k i t _ _ y b=>Z9.mk k i t b.isEmpty b y) [] (fun _ _ b f=>b::f)
theorem Fe (k i:Int) (t:Bs) (nl:Bool) (l:List Z9) (y:Sl Bs):cn (Z9.mk k i t nl l y)=Z9.mk k i t l.isEmpty (l.map cn) y:=by
 have key:∀l:List Z9,(@Z9.rec_1 (fun _=>Z9) (fun _=>List Z9) (fun k i t _ _ y b=>Z9.mk k i t b.isEmpty b y) [] (fun _ _ b f=>b::f) l:List Z9)=l.map cn:=by
  intro l;induction l with
  | nil=>rfl
  | cons a r b=>exact congrArg (cn a::·) b
 show Z9.mk k i t (List.isEmpty (@Z9.rec_1 (fun _=>Z9) (fun _=>List Z9) (fun k i t _ _ y b=>Z9.mk k i t b.isEmpty b y) [] (fun _ _ b f=>b::f) l)) (@Z9.rec_1 (fun _=>Z9) (fun _=>List Z9) (fun k i t _ _ y b=>Z9.mk k i t b.isEmpty b y) [] (fun _ _ b f=>b::f) l) y=_;rw [key];cases l<;>rfl
theorem oF (v:Z9):cn v=Z9.mk v.ai v.bA v.bp v.aB.l.isEmpty (v.aB.l.map cn) v.aR:=by cases v; exact Fe ..
noncomputable def iO (x:bT):bT:=bT.mk x.aa (cn x.gr)
noncomputable def dx (x:aA):aA:=aA.mk x.aa (bF (x.ay.l.map iO))
noncomputable def b8 (x:Z7):Z7:=Z7.mk x.aa x.av x.ck (cn x.cR) (bF (x.bf.l.map dx))
noncomputable def ct (x:Z6):Z6:=Z6.mk x.aa (bF (x.ay.l.map b8)) x.av (bF (x.bf.l.map dx))
noncomputable def d_ (x:Z8):Z8:=Z8.mk x.aa (bF (x.bf.l.map dx))
noncomputable def bq (t:ah):ah:=ah.mk t.ai t.aa (bF t.aM.l) (bF (t.bf.l.map dx)) (bF (t.aq.l.map ct)) (bF (t.ax.l.map d_)) (bF (t.aF.l.map b8))
theorem xo {α:Type}{z:Nat}{s:List α}{x:α}(hz:z<=200) (h:s.length+1<=10000000):bh z (bF s) (⟨false,[x]⟩:Sl α)=some (bF (s++[x])):=by
 unfold bh; rw [if_pos]
 ·unfold bF; simp
 ·have:((bF s).l.length+[x].length)*z<=((bF s).l.length+[x].length)*200:=Nat.mul_le_mul_left _ hz;simp only [bF,List.length_cons,List.length_nil] at this ⊢;unfold cA; omega
theorem KN (s:Sl Bs) (h:s.nl=true->s.l=[]) (hl:s.l.length<=1048576):qY s=some s:=by
 unfold qY;obtain⟨nl,l⟩:=s;cases nl with
 | true=>have:=h rfl; simp only at this; subst this; rfl
 | false =>
  simp only [cond_false];rw [jk (by omega) (by simp at hl ⊢; omega)];simp
theorem KO (s:Sl Int) (h:s.nl=true->s.l=[]) (hl:s.l.length<=1048576):pM s=some s:=by
 unfold pM;obtain⟨nl,l⟩:=s;cases nl with
 | true=>have:=h rfl; simp only at this; subst this; rfl
 | false =>
  simp only [cond_false];rw [jk (by omega) (by simp at hl ⊢; omega)];simp
theorem KP {rec:Z9->Option Z9}:∀(l:List Z9) (s:List Z9),(∀x∈l,rec x=some (cn x))->s.length+l.length<=5000000->oy rec l (bF s)=some (bF (s++l.map cn))
 | [],s,_,_=>by rw [oy,List.map_nil,List.append_nil]
 | x::l,s,hx,hl=>by
  rw [List.length_cons] at hl;rw [oy];simp only [on];rw [hx x (.head _),oB,xo (by omega) (by omega),oB,KP l (s++[cn x]) (fun y b=>hx y (.tail _ b)) (by simp; omega),List.append_assoc]; rfl
theorem KQ:∀(n:Nat) (v:Z9),2*v.sz+2<=n->v.sz<=1048576->v.wf->lc n v=some (cn v)
 | 0,_,h,_,_=>by omega
 | 1,v,h,_,_=>by have:=v.bt; omega
 | n+2,v,h,g,hw=>by
  have j:=v.bt;have hlen:v.aB.l.length<=1048576:=by have:=Sl.eV (f:=Z9.sz) v.aB (fun x=>x.pos); omega
  have b:v.aR.l.length<=1048576:=by have:=Sl.eV (f:=Bs.sz) v.aR (fun x=>Bs.mA x); omega
  have e:=KP (rec:=lc n) v.aB.l [] (fun x hx=>by
   have:=Z9.kQ hx;exact KQ n x (by omega) (by omega) ((Z9.D8 hw).2.2 x hx)) (by simp; omega)
  rw [List.nil_append] at e;rw [lc,xe];simp only [on];rw [show (Sl.nil:Sl Z9)=bF [] from rfl,e];simp only [oB];rw [KN _ (Z9.IF hw).1 b,oB,oF];unfold bF;cases v.aB.l<;>rfl
theorem KR {v:Z9}(b:v.sz<=1048576) (hw:v.wf):q6 v=some (cn v):=by unfold q6; exact KQ F0 v (by rw [fR]; omega) b hw
theorem Cb {α:Type}{p:α->Prop}{l:List α}(hl:l.length<=cA) (h:∀x∈l,p x):Sl.wf p (bF l):=⟨fun e=>by unfold bF at e ⊢; exact List.isEmpty_iff.1 e,hl,h⟩
theorem T1 {α:Type}{f:α->Nat}(l:List α):Sl.sz f (bF l)=1+(l.map f).sum:=rfl
theorem zK {α:Type}{f:α->Nat}{c:α->α}:∀{l:List α},(∀x∈l,f (c x)=f x)->((l.map c).map f).sum=(l.map f).sum
 | [],_=>rfl
 | x::l,h=>by simp only [List.map_cons,List.sum_cons,h x (.head _),zK fun y b=>h y (.tail _ b)]
theorem rz {α:Type}{f:α->Nat}{c:α->α}(s:Sl α) (h:∀x∈s.l,f (c x)=f x):Sl.sz f (bF (s.l.map c))=Sl.sz f s:=by rw [T1,zK h]; rfl
theorem rA {α:Type}{p:α->Prop}{c:α->α}{s:Sl α}(b:Sl.wf p s) (h:∀x∈s.l,p (c x)):Sl.wf p (bF (s.l.map c)):=Cb (by rw [List.length_map]; exact b.2.1) (fun y f=>by obtain⟨x,hx,rfl⟩:=List.mem_map.1 f; exact h x hx)
theorem Ff:∀(n:Nat) (v:Z9),v.sz<=n->(cn v).sz=v.sz
 | 0,v,h=>by have:=v.pos; omega
 | n+1,v,h=>by
  rw [oF,Z9.bt,Z9.bt v];show 0+1+1+Bs.sz v.bp+Sl.sz Z9.sz (⟨_,v.aB.l.map cn⟩:Sl Z9)+Sl.sz Bs.sz v.aR=_;rw [show Sl.sz Z9.sz (⟨v.aB.l.isEmpty,v.aB.l.map cn⟩:Sl Z9)=1+((v.aB.l.map cn).map Z9.sz).sum from rfl,zK fun x hx=>Ff n x (by have:=Z9.kQ hx; omega)];rfl
theorem Fg:∀(n:Nat) (v:Z9),v.sz<=n->v.wf->(cn v).wf
 | 0,v,h,_=>by have:=v.pos; omega
 | n+1,v,h,hw=>by
  rw [oF,Z9.sF];have h1:i64 v.ai:=Z9.QE hw;have b:i64 v.bA:=Z9.QG hw;have f:Sl.wf (fun _=>True) v.aR:=Z9.IF hw;refine⟨h1,b,trivial, ?_,f,trivial⟩;refine⟨fun e=>?_, ?_,fun y g=>?_⟩
  ·have e:v.aB.l.isEmpty=true:=e;show v.aB.l.map cn=[];rw [List.isEmpty_iff.1 e]; rfl
  ·show (v.aB.l.map cn).length<=_;rw [List.length_map]; exact(Z9.D8 hw).2.1
  ·obtain⟨x,hx,rfl⟩:=List.mem_map.1 g;exact Fg n x (by have:=Z9.kQ hx; omega) ((Z9.D8 hw).2.2 x hx)
theorem T2 (x:bT):(iO x).sz=x.sz:=by rw [bT.bt,bT.bt x]; show _+(cn x.gr).sz=_; rw [Ff _ _ (Nat.le_refl _)]; rfl
theorem Cc (x:aA):(dx x).sz=x.sz:=by rw [aA.bt,aA.bt x]; show _+Sl.sz bT.sz (bF (x.ay.l.map iO))=_; rw [rz _ fun x _=>T2 x]; rfl
theorem Fh (x:Z7):(b8 x).sz=x.sz:=by rw [Z7.bt,Z7.bt x]; show _+(cn x.cR).sz+Sl.sz aA.sz (bF (x.bf.l.map dx))=_; rw [Ff _ _ (Nat.le_refl _),rz _ fun x _=>Cc x]; rfl
theorem T3 (x:Z6):(ct x).sz=x.sz:=by rw [Z6.bt,Z6.bt x]; show 0+Bs.sz x.aa+Sl.sz Z7.sz (bF (x.ay.l.map b8))+aL.sz x.av+Sl.sz aA.sz (bF (x.bf.l.map dx))=_; rw [rz _ fun x _=>Cc x,rz _ fun x _=>Fh x]
theorem T4 (x:Z8):(d_ x).sz=x.sz:=by rw [Z8.bt,Z8.bt x]; show _+Sl.sz aA.sz (bF (x.bf.l.map dx))=_; rw [rz _ fun x _=>Cc x]; rfl
theorem Fi (x:ah):(bq x).sz=x.sz:=by
 rw [ah.bt,ah.bt x];show 0+1+Bs.sz x.aa+Sl.sz Bs.sz (bF x.aM.l)+Sl.sz aA.sz (bF (x.bf.l.map dx))+Sl.sz Z6.sz (bF (x.aq.l.map ct))+Sl.sz Z8.sz (bF (x.ax.l.map d_))+Sl.sz Z7.sz (bF (x.aF.l.map b8))=_;rw [rz _ fun x _=>Cc x,rz _ fun x _=>T3 x,rz _ fun x _=>T4 x,rz _ fun x _=>Fh x];rfl
theorem T5 {x:bT}(h:x.wf):(iO x).wf:=⟨trivial,Fg _ _ (Nat.le_refl _) (bT.D9 h),trivial⟩
theorem Cd {x:aA}(h:x.wf):(dx x).wf:=⟨trivial,rA (aA.kO h) fun a b=>T5 ((aA.kO h).2.2 a b),trivial⟩
theorem KS {x:Z7}(h:x.wf):(b8 x).wf:=⟨trivial,h.2.1,trivial,Fg _ _ (Nat.le_refl _) (Z7.Ea h),rA (Z7.jo h) fun a b=>Cd ((Z7.jo h).2.2 a b),trivial⟩
theorem T6 {x:Z6}(h:x.wf):(ct x).wf:=⟨trivial,rA (Z6.kO h) fun a b=>KS ((Z6.kO h).2.2 a b),h.2.2.1,rA (Z6.jo h) fun a b=>Cd ((Z6.jo h).2.2 a b),trivial⟩
theorem T7 {x:Z8}(h:x.wf):(d_ x).wf:=⟨trivial,rA (Z8.jo h) fun a b=>Cd ((Z8.jo h).2.2 a b),trivial⟩
theorem KT {x:ah}(h:x.wf):(bq x).wf:=⟨h.1,trivial,Cb (ah.yW h).2.1 (fun _ _=>trivial),rA (ah.jo h) fun a b=>Cd ((ah.jo h).2.2 a b),rA (ah.qB h) fun a b=>T6 ((ah.qB h).2.2 a b),rA (ah.wx h) fun a b=>T7 ((ah.wx h).2.2 a b),rA (ah.uR h) fun a b=>KS ((ah.uR h).2.2 a b),trivial⟩
theorem KU (n:Bs):∀(l s:List bT),(∀x∈l,x.sz<=1048576/\x.wf)->s.length+l.length<=5000000->rB l (aA.mk n (bF s))=some (aA.mk n (bF (s++l.map iO)))
 | [],s,_,_=>by rw [rB,List.map_nil,List.append_nil]
 | x::l,s,hx,hl=>by
  rw [List.length_cons] at hl;rw [rB];simp only [on];have:=x.bt;rw [KR (by have:=(hx x (.head _)).1; omega) (bT.D9 (hx x (.head _)).2),oB,xo (by omega) (by omega),oB,KU n l (s++[_]) (fun y b=>hx y (.tail _ b)) (by simp; omega),List.append_assoc]; rfl
theorem KV:∀(l s:List aA),(∀x∈l,x.sz<=1048576/\x.wf)->s.length+l.length<=5000000->oG l (bF s)=some (bF (s++l.map dx))
 | [],s,_,_=>by rw [oG,List.map_nil,List.append_nil]
 | x::l,s,hx,hl=>by
  rw [List.length_cons] at hl;rw [oG];simp only [on];have h1:=(hx x (.head _)).1;have j:=x.bt;have k:=Sl.eV (f:=bT.sz) x.ay bT.pos;rw [show (Sl.nil:Sl bT)=bF [] from rfl,KU x.aa x.ay.l [] (fun a b=>⟨by have:=Sl.de (f:=bT.sz) b; omega,(aA.kO (hx x (.head _)).2).2.2 a b⟩) (by simp; omega),oB,xo (by omega) (by omega),oB,KV l (s++[_]) (fun y g=>hx y (.tail _ g)) (by simp; omega),List.append_assoc]; rfl
theorem Ce {s:Sl aA}(h:Sl.sz aA.sz s<=1048576) (hw:Sl.wf aA.wf s):rC s=some (bF (s.l.map dx)):=by
 unfold rC;have g:=Sl.eV (f:=aA.sz) s aA.pos;rw [show (Sl.nil:Sl aA)=bF [] from rfl,KV s.l [] (fun a b=>⟨by have:=Sl.de (f:=aA.sz) b; omega,hw.2.2 a b⟩) (by simp; omega)]; rfl
theorem KW:∀(l s:List Z7),(∀x∈l,x.sz<=1048576/\x.wf)->s.length+l.length<=5000000->mb l (bF s)=some (bF (s++l.map b8))
 | [],s,_,_=>by rw [mb,List.map_nil,List.append_nil]
 | x::l,s,hx,hl=>by
  rw [List.length_cons] at hl;rw [mb];simp only [on];obtain⟨h1,hw⟩:=hx x (.head _);have f:=x.bt;have g:=x.av.s_;rw [KO _ (aL.IG (Z7.ww hw)).1 (by omega),oB,KR (by omega) (Z7.Ea hw),oB,Ce (by omega) (Z7.jo hw),oB,xo (by omega) (by omega),oB,KW l (s++[_]) (fun y b=>hx y (.tail _ b)) (by simp; omega),List.append_assoc]; rfl
theorem KX {s:Sl Z7}(h:Sl.sz Z7.sz s<=1048576) (hw:Sl.wf Z7.wf s):vq s=some (bF (s.l.map b8)):=by
 unfold vq;have g:=Sl.eV (f:=Z7.sz) s Z7.pos;rw [show (Sl.nil:Sl Z7)=bF [] from rfl,KW s.l [] (fun a b=>⟨by have:=Sl.de (f:=Z7.sz) b; omega,hw.2.2 a b⟩) (by simp; omega)]; rfl
theorem T8 {d e:ak}(m:d.aj.l.length<=1048576) (he:e.aj.l.length<=1048576){a b:aL}(f:dZ a.aH) (g:dZ b.aH) (p:jr e b.aa a.aa=jr d b.aa a.aa):lY e a b=lY d a b:=by
 have h1:=f.2; have q:=g.2;obtain⟨v,hv,hw⟩:=BU m he F0 a b f.2 g.2 p (by rw [fR]; omega);have j:=(BN m f g).2;have k:=(BN he f g).2;unfold EM at j k;rw [hv] at j; rw [hw] at k;rw [<- oJ j,<- oJ k]
def vr (l:List Z6):List Bs:=l.flatMap fun f=>f.av.aa::f.ay.l.map fun a=>a.av.aa
def zL (d:ak) (t:ah) (n:Bs):List Bs:=vr t.aq.l++(t.aF.l.map (fun a=>a.av.aa)++((if t.ai=3 then t.ax.l.map Z8.aa else [])++(t.aM.l++(if t.ai=2 then(d.aj.l.filter fun x=>x.aM.l.contains n).map ah.aa else []))))
def tV (d:ak) (n:Bs):Bool:=(bl d.aj.l n).2
def sc (d:ak) (n:Bs):List Bs:=zL d (bl d.aj.l n).1 n
def Rd (_:ak) (_:Bs):Prop:=True
def T9 (_:ak) (_:Bs):Bool:=true
theorem Rd.step {d:ak}{b c:Bs}(_:Rd d b) (_:tV d b=true) (_:c∈sc d b):Rd d c:=trivial
def oH (d:ak):List ah:=d.aj.l.filter fun t=>T9 d t.aa
theorem p9 (d:ak):oH d=d.aj.l:=List.filter_eq_self.2 fun _ _=>rfl
noncomputable def dy (d:ak):ak:=ak.mk (bF ((oH d).map bq))
theorem Cf (a:ah) (r:List ah) (n:Bs):bl (a::r) n=if a.aa=n then(a,true) else bl r n:=by
 unfold bl;rw [List.find?_cons];by_cases h:a.aa=n
 ·rw [beq_iff_eq.2 h,if_pos h]
 ·rw [beq_eq_false_iff_ne.2 h,if_neg h]
theorem KY {n:Bs}:∀l:List ah,bl (l.map bq) n=(bq (bl l n).1,(bl l n).2)
 | []=>rfl
 | a::r=>by
  rw [List.map_cons,Cf a r n,Cf];by_cases b:a.aa=n
  ·rw [if_pos b,if_pos (show (bq a).aa=n from b)]
  ·rw [if_neg b,if_neg (show ¬(bq a).aa=n from b)]; exact KY r
theorem oI {d:ak}{n:Bs}(_:Rd d n):bl (dy d).aj.l n=(bq (bl d.aj.l n).1,(bl d.aj.l n).2):=by
 show bl ((oH d).map bq) n=_;rw [p9]; exact KY d.aj.l
theorem KZ {d:ak}{n:Bs}(h:tV d n=true):(bl d.aj.l n).1∈d.aj.l/\(bl d.aj.l n).1.aa=n:=by
 unfold tV bl at h;unfold bl;cases e:d.aj.l.find? (fun t=>t.aa==n) with
 | none=>rw [e] at h; cases h
 | some t =>
  have h1:=List.find?_some e;exact⟨List.mem_of_find?_eq_some e,beq_iff_eq.1 h1⟩
theorem Fj {d:ak}{t:ah}:t∈oH d↔t∈d.aj.l/\Rd d t.aa:=by
 rw [p9]; exact⟨fun h=>⟨h,trivial⟩,fun h=>h.1⟩
theorem T_ (d:ak):(dy d).sz<=d.sz:=by
 rw [ak.bt,ak.bt d];show 0+(1+(((oH d).map bq).map ah.sz).sum)<=0+(1+(d.aj.l.map ah.sz).sum);rw [p9,zK fun x _=>Fi x];omega
theorem Ua {d:ak}(h:d.wf):(dy d).wf:=by
 refine⟨Cb ?_ fun x hx=>?_,trivial⟩
 ·rw [List.length_map,p9];exact(ak.Eb h).2.1
 ·obtain⟨t,ht,rfl⟩:=List.mem_map.1 hx;exact KT ((ak.Eb h).2.2 t (Fj.1 ht).1)
theorem Ub {d:ak}{n:Bs}(h:Rd d n):ja (dy d) n=ja d n:=by
 rw [<- Ez,<- Ez];unfold jN sI;simp only [on,ko,oI h];rfl
theorem K0 {d:ak}{n:Bs}(h:Rd d n):jN (dy d) n=jN d n:=by
 unfold jN sI;simp only [on,ko,oI h];rfl
theorem K_ {d:ak}{n:Bs}(h:Rd d n) (a:Bs) (k:Int):lV (dy d) n a k=lV d n a k:=by
 unfold lV;rw [oI h,Ub h]; rfl
theorem Fk {d:ak}(a b:Bs):∀(l:List Z7) (s:List Bs),(∀x∈l,Rd d x.av.aa)->gY (dy d) a b s (l.map b8)=gY d a b s l
 | [],_,_=>rfl
 | x::l,s,h=>by
  rw [List.map_cons,gY,gY,show (b8 x).aa=x.aa from rfl,show (b8 x).av=x.av from rfl,K_ (h x (.head _)),Fk a b l _ fun y f=>h y (.tail _ f)]
theorem La {d:ak}(b:Bs):∀(l:List Z6) (s:List Bs),(∀y∈vr l,Rd d y)->kU (dy d) b s (l.map ct)=kU d b s l
 | [],_,_=>rfl
 | x::l,s,h=>by
  have g:vr (x::l)=x.av.aa::(x.ay.l.map (fun a=>a.av.aa)++vr l):=by simp [vr]
  rw [g] at h;rw [List.map_cons,kU,kU,show (ct x).aa=x.aa from rfl,show (ct x).av=x.av from rfl,show (ct x).ay.l=x.ay.l.map b8 from rfl,K_ (h _ (.head _)),
   Fk _ _ x.ay.l _ fun y f=>h _ (.tail _ (List.mem_append.2 (.inl (List.mem_map.2 ⟨y,f,rfl⟩)))),La b l _ fun y f=>h y (.tail _ (List.mem_append.2 (.inr f)))]
theorem Lb (b:Bs):∀(l:List Z8) (s:List Bs),kV b s (l.map d_)=kV b s l
 | [],_=>rfl
 | x::l,s=>by rw [List.map_cons,kV,kV,show (d_ x).aa=x.aa from rfl,Lb b l]
theorem Uc {d:ak}{t:ah}(h:bl d.aj.l t.aa=(t,true)):sc d t.aa=zL d t t.aa:=by unfold sc; rw [h]
theorem Ud {d:ak}{t:ah}(h:bl d.aj.l t.aa=(t,true)):tV d t.aa=true:=by unfold tV; rw [h]
structure Kd (d:ak) (t:ah):Prop where
 f:∀y∈vr t.aq.l,Rd d y
 i:∀x∈t.aF.l,Rd d x.av.aa
 m:t.ai=3->∀x∈t.ax.l,Rd d x.aa
 p:∀y∈t.aM.l,Rd d y
 o:t.ai=2->∀x∈d.aj.l,x.aM.l.contains t.aa=true->Rd d x.aa
theorem Fl {d:ak}{t:ah}(h:bl d.aj.l t.aa=(t,true)) (hr:Rd d t.aa):Kd d t:=by
 have st:∀y∈zL d t t.aa,Rd d y:=fun y b=>hr.step (Ud h) (by rw [Uc h]; exact b);unfold zL at st;refine⟨fun y b=>st y (List.mem_append.2 (.inl b)),fun x hx=>st _ (List.mem_append.2 (.inr (List.mem_append.2 (.inl (List.mem_map.2 ⟨x,hx,rfl⟩))))),fun hk x hx=>?_,fun y b=>?_,fun hk x hx hc=>?_⟩
 ·refine st _ (List.mem_append.2 (.inr (List.mem_append.2 (.inr (List.mem_append.2 (.inl ?_))))));rw [if_pos hk]; exact List.mem_map.2 ⟨x,hx,rfl⟩
 ·exact st _ (List.mem_append.2 (.inr (List.mem_append.2 (.inr (List.mem_append.2 (.inr (List.mem_append.2 (.inl b))))))))
 ·refine st _ (List.mem_append.2 (.inr (List.mem_append.2 (.inr (List.mem_append.2 (.inr (List.mem_append.2 (.inr ?_))))))));rw [if_pos hk]; exact List.mem_map.2 ⟨x,List.mem_filter.2 ⟨hx,hc⟩,rfl⟩
theorem Ue {d:ak}{t:ah}(h:Kd d t):kW (dy d) (bq t)=kW d t:=by
 unfold kW;rw [show (bq t).ai=t.ai from rfl,show (bq t).aa=t.aa from rfl,show (bq t).aq.l=t.aq.l.map ct from rfl,show (bq t).ax.l=t.ax.l.map d_ from rfl,show (bq t).aF.l=t.aF.l.map b8 from rfl,
  La _ _ _ h.f,Lb,Fk _ _ _ _ h.i]
theorem Cg {d:ak}{own:Bs}{x:Z7}(h:Rd d x.av.aa):gd (dy d) own (b8 x)=gd d own x:=by
 unfold gd;rw [show (b8 x).av=x.av from rfl,oI h]; rfl
theorem Lc {d:ak}{n:Bs}(h:Rd d n):jC (dy d) n=(jC d n).map b8:=by unfold jC; rw [oI h]; rfl
theorem Uf {d:ak}{n:Bs}(h:Rd d n):∀x∈jC d n,Rd d x.av.aa:=fun x hx=>by
 cases b:tV d n
 ·unfold jC at hx;rw [vb b] at hx;cases hx
 ·refine h.step b ?_;unfold sc zL;exact List.mem_append.2 (.inr (List.mem_append.2 (.inl (List.mem_map.2 ⟨x,hx,rfl⟩))))
theorem Ug {d:ak}{own:Bs}{l:List Z7}(hl:∀x∈l,Rd d x.av.aa){n:Bs}(h:fh (dy d) own (l.map b8) n):fh d own l n/\Rd d n:=by
 induction h with
 | here hx hg =>
  obtain⟨x,b,rfl⟩:=List.mem_map.1 hx;rw [Cg (hl x b)] at hg;exact⟨fh.here (x:=x) b hg,hl x b⟩
 | step _ hx hg g =>
  obtain⟨j,f⟩:=g;rw [Lc f] at hx;obtain⟨x,b,rfl⟩:=List.mem_map.1 hx;have hr:=Uf f x b;rw [Cg hr] at hg;exact⟨fh.step (x:=x) j b hg,hr⟩
theorem Uh {d:ak}{own:Bs}{l:List Z7}{n:Bs}(h:fh d own l n):fh (dy d) own (l.map b8) n:=by
 induction h with
 | here hx hg=>exact fh.here (x:=b8 _) (List.mem_map_of_mem hx) (by rw [Cg trivial]; exact hg)
 | step _ hx hg b=>exact fh.step (x:=b8 _) b (by rw [Lc trivial]; exact List.mem_map_of_mem hx) (by rw [Cg trivial]; exact hg)
theorem Ui (d:ak) (t:ah):kT (dy d) (bq t)=kT d t:=by
 unfold kT;exact decide_eq_decide.2 ⟨fun h=>(Ug (fun _ _=>trivial) h).1,fun h=>Uh h⟩
theorem Fm {b:Bool}{e:Int}{a:Bs}:b_ b e a=[]↔b=false:=by unfold b_; cases b<;>simp
theorem Uj (d:ak) (t:ah) (s:List Bs):lW (dy d) s (bq t)=lW d s t:=by
 unfold lW;rw [Ui,show tA (bq t)=tA t from by
  unfold tA;rw [show (bq t).ai=t.ai from rfl,show (bq t).aq.l=t.aq.l.map ct from rfl,show (bq t).ax.l=t.ax.l.map d_ from rfl,show (bq t).aF.l=t.aF.l.map b8 from rfl,List.length_map,List.length_map,List.length_map]]
 rfl
theorem Uk (d:ak) (t:ah):Kd d t:=⟨fun _ _=>trivial,fun _ _=>trivial,fun _ _ _=>trivial,fun _ _=>trivial,fun _ _ _ _=>trivial⟩
theorem Ld (d:ak):∀(l:List ah) (s:List Bs),jb (dy d) s (l.map bq)=jb d s l
 | [],_=>rfl
 | t::r,s=>by rw [List.map_cons,jb,jb,Uj,Ue (Uk d t),show (bq t).aa=t.aa from rfl,Ld d r]
theorem Lf {d:ak}:∀(l:List ah) (s:List Bs),jb d s l=[]->∀t∈l,t.aa∉s/\bl l t.aa=(t,true)
 | [],_,_,_,h=>(by cases h)
 | a::r,s,h,t,ht=>by
  rw [jb] at h;simp only [List.append_eq_nil_iff] at h;obtain⟨h1,_,f⟩:=h;unfold lW at h1;simp only [List.append_eq_nil_iff,Fm] at h1;have g:=(Bool.or_eq_false_iff.1 h1.1.2).1;rcases List.mem_cons.1 ht with rfl|ht
  ·exact⟨by simpa using g,by rw [Cf,if_pos rfl]⟩
  ·obtain⟨j,k⟩:=Lf r _ f t ht;have b:t.aa∉s/\t.aa≠a.aa:=by simpa using j
   exact⟨b.1,by rw [Cf,if_neg (fun e=>b.2 e.symm)]; exact k⟩
theorem Lg (d:ak):gZ (dy d) true=gZ d true:=by
 unfold gZ;rw [show (dy d).aj.l=(oH d).map bq from rfl,p9,Ld,show bl ((d.aj.l).map bq)=bl (dy d).aj.l from by unfold dy; rw [p9]; rfl,oI trivial]
theorem Lh {d:ak}(h:gZ d true=[]):∀t∈d.aj.l,bl d.aj.l t.aa=(t,true):=fun t ht=>by
 unfold gZ at h;simp only [List.append_eq_nil_iff] at h;exact(Lf d.aj.l [] h.1 t ht).2
theorem xq {α β:Type}{f g:α->List β}:∀{l:List α},(∀x∈l,f x=g x)->l.flatMap f=l.flatMap g
 | [],_=>rfl
 | a::l,h=>by rw [List.flatMap_cons,List.flatMap_cons,h a (.head _),xq fun x hx=>h x (.tail _ hx)]
theorem Ul {d:ak}{a n:Bs}(b:Rd d a) (hn:Rd d n):jr (dy d) a n=jr d a n:=by
 unfold jr;rw [oI b,oI hn];simp only [show ∀t,(bq t).ai=t.ai from fun _=>rfl,show ∀t,(bq t).aM.l=t.aM.l from fun _=>rfl,show ∀t,(bq t).ax.l=t.ax.l.map d_ from fun _=>rfl,List.any_map];rfl
theorem Li {d:ak}{n:Bs}(h:Rd d n) (k:Int):eX (dy d) n k=eX d n k:=by
 unfold eX;rw [oI h]; rfl
theorem Um:b8 Z7.zero=Z7.zero:=by
 unfold b8;rw [oF]; rfl
theorem Ch (n:Bs):∀l:List Z7,dw (l.map b8) n=(b8 (dw l n).1,(dw l n).2)
 | []=>by show (Z7.zero,false)=(b8 Z7.zero,false); rw [Um]
 | a::r=>by
  have b:=Ch n r;unfold dw at b ⊢;rw [List.map_cons,List.find?_cons,List.find?_cons,show (b8 a).aa=a.aa from rfl];cases a.aa==n
  ·exact b
  ·rfl
theorem Lj (n:Bs):∀l:List Z6,eS (l.map ct) n=(ct (eS l n).1,(eS l n).2)
 | []=>rfl
 | a::r=>by
  have b:=Lj n r;unfold eS at b ⊢;rw [List.map_cons,List.find?_cons,List.find?_cons,show (ct a).aa=a.aa from rfl];cases a.aa==n
  ·exact b
  ·rfl
theorem Ll (p:Bs) (y:Z6):∀l:List Z7,lZ p (ct y) (l.map b8)=lZ p y l
 | []=>rfl
 | a::r=>by
  have b:=Ll p y r;unfold lZ at b ⊢;rw [List.map_cons,List.flatMap_cons,List.flatMap_cons,b,show (ct y).ay.l=y.ay.l.map b8 from rfl,show (b8 a).aa=a.aa from rfl,Ch];rfl
theorem Lm (p:Bs) (x:Z6):∀l:List Z7,oo p (ct x) (l.map b8)=oo p x l
 | []=>rfl
 | a::r=>by
  have b:=Lm p x r;unfold oo at b ⊢;rw [List.map_cons,List.flatMap_cons,List.flatMap_cons,b,show (ct x).ay.l=x.ay.l.map b8 from rfl,show (b8 a).aa=a.aa from rfl,Ch];rfl
theorem Ln {l:List Z6}{f:Z6}(h:f∈l):f.av.aa∈vr l:=List.mem_flatMap.2 ⟨f,h,.head _⟩
theorem Un {l:List Z6}{n:Bs}(h:(eS l n).2=true):(eS l n).1∈l:=by
 unfold eS at h ⊢;cases e:l.find? (fun t=>t.aa==n) with
 | none=>rw [e] at h; cases h
 | some t=>exact List.mem_of_find?_eq_some e
theorem Uo {d:ak}(hl:d.aj.l.length<=1048576){t:ah}{x:Z6}(ht:∀f∈t.aq.l,Rd d f.av.aa/\dZ f.av.aH) (hx:Rd d x.av.aa/\dZ x.av.aH):mU (dy d) (bq t) (ct x)=mU d t x:=by
 unfold mU;rw [show (bq t).aq.l=t.aq.l.map ct from rfl,show (ct x).aa=x.aa from rfl,Lj];simp only [show (bq t).aa=t.aa from rfl,show ∀f,(ct f).av=f.av from fun _=>rfl,show (ct x).ay.l=x.ay.l.map b8 from rfl,show ∀f,(ct f).ay.l=f.ay.l.map b8 from fun _=>rfl,Ll,Lm];cases b:(eS t.aq.l x.aa).2
 ·simp only [Bool.not_false,cond_true]
 ·obtain⟨h1,g⟩:=ht _ (Un b);have j:(dy d).aj.l.length<=1048576:=by
   show ((oH d).map bq).length<=_;rw [List.length_map];exact Nat.le_trans (List.length_filter_le _ _) hl
  rw [T8 hl j g hx.2 (Ul hx.1 h1)]
theorem Lo {d:ak}(hl:d.aj.l.length<=1048576){t:ah}(ht:∀f∈t.aq.l,Rd d f.av.aa/\dZ f.av.aH):∀l:List Z6,(∀f∈l,Rd d f.av.aa/\dZ f.av.aH)->mV (dy d) (bq t) (l.map ct)=mV d t l
 | [],_=>rfl
 | a::r,h=>by
  have b:=Lo hl ht r fun f g=>h f (.tail _ g);unfold mV at b ⊢;rw [List.map_cons,List.flatMap_cons,List.flatMap_cons,b,Uo hl ht (h a (.head _))]
structure Gd (d:ak):Prop where
 l:d.aj.l.length<=1048576
 f:∀t∈d.aj.l,bl d.aj.l t.aa=(t,true)
 s:∀t∈d.aj.l,∀f∈t.aq.l,dZ f.av.aH
theorem Up {d:ak}(g:Gd d){n:Bs}(h:Rd d n):∀f∈(bl d.aj.l n).1.aq.l,Rd d f.av.aa/\dZ f.av.aH:=fun f b=>by
 cases j:tV d n
 ·rw [vb j] at b; cases b
 ·obtain⟨h1,k⟩:=KZ j;exact⟨(Fl (g.f _ h1) (by rw [k]; exact h)).f _ (Ln b),g.s _ h1 f b⟩
theorem Lp {d:ak}(g:Gd d){t:ah}(ht:∀f∈t.aq.l,Rd d f.av.aa/\dZ f.av.aH):∀(l s:List Bs),(∀n∈l,Rd d n)->l6 (dy d) (bq t) s l=l6 d t s l
 | [],_,_=>rfl
 | n::r,s,h=>by
  have hn:=h n (.head _);rw [l6,l6,Lp g ht r _ fun m hm=>h m (.tail _ hm)];unfold gB;rw [Li hn,oI hn,show (bq t).aa=t.aa from rfl];simp only [show ∀t,(bq t).aq.l=t.aq.l.map ct from fun _=>rfl];rw [Lo g.l ht _ (Up g hn)]
theorem Lq {d:ak}{t:ah}:∀(l:List Z8) (s:List Bs),(∀m∈l,Rd d m.aa)->mW (dy d) (bq t) s (l.map d_)=mW d t s l
 | [],_,_=>rfl
 | m::r,s,h=>by
  rw [List.map_cons,mW,mW,Lq r _ fun m hm=>h m (.tail _ hm)];unfold gB;rw [show (d_ m).aa=m.aa from rfl,Li (h m (.head _)),show (bq t).aa=t.aa from rfl]
theorem Uq {d:ak}(g:Gd d){t:ah}(h:t∈d.aj.l) (hr:Rd d t.aa):pV (dy d) (bq t)=pV d t:=by
 have hk:=Fl (g.f t h) hr;unfold pV;rw [show (bq t).ai=t.ai from rfl,show (bq t).aM.l=t.aM.l from rfl,show (bq t).ax.l=t.ax.l.map d_ from rfl,
  Lp g (fun f b=>⟨hk.f _ (Ln b),g.s t h f b⟩) _ _ hk.p]
 by_cases j:t.ai=3
 ·rw [Lq _ _ (hk.m j)]
 ·rw [dF j]; rfl
theorem Lr {d:ak}(g:Gd d):k8 (dy d)=k8 d:=by
 unfold k8;rw [show (dy d).aj.l=(oH d).map bq from rfl,p9,List.flatMap_map];exact xq fun t ht=>Uq g ht trivial
noncomputable def nz:Z9->Z9:=@Z9.rec (fun _=>Z9) (fun _=>List Z9) (fun k i t _ _ y b=>Z9.mk k i t b.isEmpty b (bF y.l)) [] (fun _ _ b f=>b::f)
theorem Fo (k i:Int) (t:Bs) (nl:Bool) (l:List Z9) (y:Sl Bs):nz (Z9.mk k i t nl l y)=Z9.mk k i t l.isEmpty (l.map nz) (bF y.l):=by
 have key:∀l:List Z9,(@Z9.rec_1 (fun _=>Z9) (fun _=>List Z9) (fun k i t _ _ y b=>Z9.mk k i t b.isEmpty b (bF y.l)) [] (fun _ _ b f=>b::f) l:List Z9)=l.map nz:=by
  intro l;induction l with
  | nil=>rfl
  | cons a r b=>exact congrArg (nz a::·) b
 show Z9.mk k i t (List.isEmpty (@Z9.rec_1 (fun _=>Z9) (fun _=>List Z9) (fun k i t _ _ y b=>Z9.mk k i t b.isEmpty b (bF y.l)) [] (fun _ _ b f=>b::f) l)) (@Z9.rec_1 (fun _=>Z9) (fun _=>List Z9) (fun k i t _ _ y b=>Z9.mk k i t b.isEmpty b (bF y.l)) [] (fun _ _ b f=>b::f) l) (bF y.l)=_;rw [key];cases l<;>rfl
theorem nk (v:Z9):nz v=Z9.mk v.ai v.bA v.bp v.aB.l.isEmpty (v.aB.l.map nz) (bF v.aR.l):=by cases v; exact Fo ..
structure Nz (v w:Z9):Prop where
 e:nz v=nz w
theorem Nz.kind {v w:Z9}(h:Nz v w):v.ai=w.ai:=by have:=h.e; rw [nk,nk w] at this; injection this
theorem Nz.int {v w:Z9}(h:Nz v w):v.bA=w.bA:=by have:=h.e; rw [nk,nk w] at this; injection this
theorem Nz.text {v w:Z9}(h:Nz v w):v.bp=w.bp:=by have:=h.e; rw [nk,nk w] at this; injection this
theorem Nz.items {v w:Z9}(h:Nz v w):v.aB.l.map nz=w.aB.l.map nz:=by have:=h.e; rw [nk,nk w] at this; injection this
theorem Nz.keys {v w:Z9}(h:Nz v w):v.aR.l=w.aR.l:=by
 have:=h.e; rw [nk,nk w] at this
 injection this with _ _ _ _ _ b
 have f:(bF v.aR.l).l=(bF w.aR.l).l:=congrArg (fun s:Sl Bs=>s.l) b;exact f
theorem Ls:∀(n:Nat) (v:Z9),v.sz<=n->nz (cn v)=nz v
 | 0,v,h=>by have:=v.pos; omega
 | n+1,v,h=>by
  rw [oF,Fo,nk v,List.map_map];have e:v.aB.l.map (nz ∘ cn)=v.aB.l.map nz:=List.map_congr_left fun x hx=>Ls n x (by have:=Z9.kQ hx; omega);rw [e];cases v.aB.l<;>rfl
theorem Nz.cp (v:Z9):Nz v (cn v):=⟨(Ls _ v (Nat.le_refl _)).symm⟩
theorem Lt {α:Type}{z:Nat}{s r u:Sl α}(h:bh z s r=some u):u.l=s.l++r.l:=by
 unfold bh at h; split at h
 ·cases h; rfl
 ·cases h
theorem Lu {rec:Z9->Option Z9}:∀(l:List Z9) (s t:Sl Z9),(∀x∈l,∀r,rec x=some r->nz r=nz x)->oz rec l s=some t->t.l.map nz=s.l.map nz++l.map nz
 | [],s,t,_,h=>by rw [oz] at h; cases h; simp
 | x::l,s,t,hr,h=>by
  rw [oz] at h;simp only [on] at h;obtain⟨x',b,h⟩:=bx h;obtain⟨u,f,h⟩:=bx h;have:=Lu l u t (fun y g=>hr y (.tail _ g)) h;rw [this,Lt f];simp [hr x (.head _) _ b]
theorem Fp:∀(n:Nat) (v r:Z9),kw n v=some r->nz r=nz v
 | 0,v,r,h=>by rw [kw] at h; cases h
 | 1,v,r,h=>by rw [kw,vh] at h; cases h
 | n+2,v,r,h=>by
  rw [kw,vh] at h;simp only [on] at h;obtain⟨a,f,h⟩:=bx h;obtain⟨b,j,h⟩:=bx h;obtain⟨p,k,f⟩:=bx f;cases f;cases h;have h1:=Lu v.aB.l _ _ (fun x _ r hr=>Fp n x r hr) k;have g:=Lt j;simp only [Sl.nil,List.map_nil,List.nil_append] at h1 g;rw [Fo,nk v,h1,g];have m:a.l.isEmpty=v.aB.l.isEmpty:=by
   have:=congrArg List.length h1;simp only [List.length_map] at this;rw [Bool.eq_iff_iff,List.isEmpty_iff_length_eq_zero,List.isEmpty_iff_length_eq_zero,this]
  rw [m]
def iS:Z9:=Z9.mk 0 0 [] true [] Sl.nil
theorem Lv {v w:Z9}(h:Nz v w) (s:Bs):∀(l:List Bs) (i:Nat) (o o':Unit ⊕ (Z9×Bool)),kA v s l i=some o->kA w s l i=some o'->(match o with|.inl _=>(iS,false)|.inr e=>e).2=(match o' with|.inl _=>(iS,false)|.inr e=>e).2/\Nz (match o with|.inl _=>(iS,false)|.inr e=>e).1 (match o' with|.inl _=>(iS,false)|.inr e=>e).1
 | [],i,o,o',h1,f=>by
  rw [kA] at h1 f;cases h1; cases f;exact⟨rfl,⟨rfl⟩⟩
 | x::l,i,o,o',h1,f=>by
  rw [kA] at h1 f;simp only [on] at h1 f;have hlen:v.aB.l.length=w.aB.l.length:=by have:=congrArg List.length h.items; simpa using this
  cases hx:x==s
  ·rw [hx,cond_false] at h1 f;exact Lv h s l (i+1) o o' h1 f
  ·rw [hx,cond_true] at h1 f;rw [<- hlen] at f;cases g:decide (((v.aB.l.length:Nat):Int)<=((i:Nat):Int))
   ·rw [g,cond_false] at h1 f;obtain⟨a,a1,h1⟩:=bx h1;obtain⟨j,a2,h1⟩:=bx h1;obtain⟨b,k,f⟩:=bx f;obtain⟨b',m,f⟩:=bx f;cases h1; cases f;refine⟨rfl,⟨?_⟩⟩;show nz j=nz b';rw [Fp _ _ _ a2,Fp _ _ _ m];have e:=congrArg (fun l=>l[i]?) h.items;simp only [List.getElem?_map,a1,k,Option.map_some] at e;exact oJ e
   ·rw [g,cond_true] at h1 f;cases h1; cases f;exact⟨rfl,⟨rfl⟩⟩
structure Rw (d:ak) (c c':Z3):Prop where
 d1:c.Fd=d
 d2:c'.Fd=dy d
 v1:c.eY=iS
 v2:c'.eY=iS
 li:c'.fK=c.fK
 co:c'.kL=c.kL
 er:c'.dh=c.dh
theorem Rw.fail {d:ak}{c c':Z3}(h:Rw d c c') (e:Int):Rw d (fq c e) (fq c' e):=by
 unfold fq;rw [h.er];cases decide (c.dh=0)
 ·exact h
 ·exact⟨h.d1,h.d2,h.v1,h.v2,h.li,h.co,rfl⟩
theorem Rw.count {d:ak}{c c':Z3}(h:Rw d c c') (n:Int):Rw d (Z3.mk c.Fd c.eY c.fK n c.dh) (Z3.mk c'.Fd c'.eY c'.fK n c'.dh):=⟨h.d1,h.d2,h.v1,h.v2,h.li,rfl,h.er⟩
theorem Rw.node {d:ak}{c c' z l:Z3}(h:Rw d c c'){L:Int}(e:l8 c L=some z) (j:l8 c' L=some l):Rw d z l:=by
 unfold l8 at e j;simp only [on] at e j;have key:∀a b:Z3,Rw d a b->((cN a.kL (1:Int)).bind fun f=>bif (decide ((4096:Int)<f)) then some (fq (Z3.mk a.Fd a.eY a.fK f a.dh) (4:Int)) else(some (Z3.mk a.Fd a.eY a.fK f a.dh)))=some z ->
   ((cN b.kL (1:Int)).bind fun f=>bif (decide ((4096:Int)<f)) then some (fq (Z3.mk b.Fd b.eY b.fK f b.dh) (4:Int)) else(some (Z3.mk b.Fd b.eY b.fK f b.dh)))=some l->Rw d z l:=by
  intro a b m h1 g;rw [m.co] at g;obtain⟨x,q,h1⟩:=bx h1;obtain⟨x',p,g⟩:=bx g;rw [q] at p;obtain rfl:=oJ p;cases k:decide ((4096:Int)<x)
  ·rw [k,cond_false] at h1 g; cases h1; cases g; exact m.count x
  ·rw [k,cond_true] at h1 g; cases h1; cases g; exact(m.count x).fail 4
 cases k:decide ((24:Int)<L)
 ·rw [k] at e j; exact key _ _ h e j
 ·rw [k] at e j; exact key _ _ (h.fail 5) e j
theorem Rw.scalar {d:ak}{c c' z f:Z3}{v w x y:Z9}(h:Rw d c c') (hv:Nz v w){n:Bs}(e:lg c n v=some (x,z)) (b:lg c' n w=some (y,f)):Rw d z f:=by
 unfold lg at e b;rw [<- hv.kind,<- hv.int] at b;simp only [on] at e b
 revert e b
 generalize (((((n==([73,110,116]:Bs)))&&(decide (v.ai=(2:Int))))&&(decide ((-2147483648:Int)<=v.bA)))&&(decide (v.bA<(2147483648:Int))))=g;cases g
 ·simp only [cond_false];generalize (bif (((n==([83,116,114,105,110,103]:Bs)))&&(decide (v.ai=(3:Int)))) then((((n==([83,116,114,105,110,103]:Bs)))&&(decide (v.ai=(3:Int))))) else(bif (((n==([66,111,111,108,101,97,110]:Bs)))&&(decide (v.ai=(1:Int)))) then((((n==([66,111,111,108,101,97,110]:Bs)))&&(decide (v.ai=(1:Int))))) else((((n==([73,68]:Bs)))&&(decide (v.ai=(3:Int)))))))=j;cases j
  ·simp only [cond_false];generalize (((n==([73,68]:Bs)))&&(decide (v.ai=(2:Int))))=k;cases k
   ·simp only [cond_false];intro e b; cases e; cases b; exact h.fail 23
   ·simp only [cond_true];intro e b;obtain⟨_,_,e⟩:=bx e;obtain⟨_,_,b⟩:=bx b;cases e; cases b; exact h
  ·simp only [cond_true];intro e b; cases e; cases b; exact h
 ·simp only [cond_true];intro e b; cases e; cases b; exact h
theorem Lw {d:ak}{c c':Z3}{v w:Z9}(hv:Nz v w):∀l:List Z8,(lm c v l=Sum.inl ()/\lm c' w (l.map d_)=Sum.inl ())\/∃x y,lm c v l=Sum.inr (x,c)/\lm c' w (l.map d_)=Sum.inr (y,c')
 | []=>.inl ⟨rfl,rfl⟩
 | m::l=>by
  rw [List.map_cons,lm,lm];simp only [on];rw [show (d_ m).aa=m.aa from rfl,<- hv.text];cases m.aa==v.bp
  ·simp only [cond_false]; exact Lw (d:=d) hv l
  ·exact .inr ⟨_,_,rfl,rfl⟩
theorem Rw.Ur {d:ak}{c c':Z3}{v w:Z9}(h:Rw d c c') (hv:Nz v w) (t:ah):Rw d (lp c t v).2 (lp c' (bq t) w).2:=by
 unfold lp;simp only [on];rw [<- hv.kind,h.li,show (bq t).ax.l=t.ax.l.map d_ from rfl];cases (decide (v.ai=(4:Int)))||((decide (v.ai=(3:Int)))&&(!c.fK))
 ·exact h.fail 23
 ·rcases Lw (d:=d) (c:=c) (c':=c') hv t.ax.l with ⟨b,f⟩|⟨x,y,b,f⟩
  ·rw [b,f]; exact h.fail 23
  ·rw [b,f]; exact h
theorem Rw.keys {d:ak}(t:ah):∀(l:List Bs){c c':Z3},Rw d c c'->Rw d (jQ t l c) (jQ (bq t) l c')
 | [],_,_,h=>h
 | k::l,c,c',h=>by
  rw [jQ,jQ];simp only [on];have e:(iZ (bq t).aF k).2=(iZ t.aF k).2:=by
   rw [BP,BP,show (bq t).aF.l=t.aF.l.map b8 from rfl,Ch]
  rw [e];refine Rw.keys t l ?_;cases (iZ t.aF k).2
  ·exact h.fail 22
  ·exact h
theorem Us {v w x y:Z9}{b b':Bool}(h:Nz v w){s:Bs}(e:nj v s=some (x,b)) (f:nj w s=some (y,b')):b=b'/\Nz x y:=by
 unfold nj at e f;rw [<- h.kind] at f;cases hk:decide (v.ai=(6:Int))
 ·rw [hk] at e f; cases e; cases f; exact⟨rfl,⟨rfl⟩⟩
 ·rw [hk,Bool.not_true,cond_false] at e f;obtain⟨o,j,e⟩:=bx e;obtain⟨o',g,f⟩:=bx f;rw [<- h.keys] at g;have:=Lv h s _ _ _ _ j g;cases o<;>cases o'<;>(simp only [on] at e f; cases e; cases f; exact this)
theorem Lx {α:Type}(f:α->α) (l:List α) (k:Int):c_ (l.map f) k=(c_ l k).map f:=by
 unfold c_
 split
 ·rw [List.getElem?_map]
 ·rfl
theorem Ly (s f:Sl Z7) (g:f.l=s.l.map b8) (i:Int):∀(n:Nat) (k:Int),oC f i n k=oC s i n k
 | 0,_=>rfl
 | n+1,k=>by
  rw [oC,oC,g,Lx,Lx];cases decide (k<i)
  ·rfl
  ·simp only [cond_true];cases c_ s.l k with
   | none=>rfl
   | some a =>
    simp only [Option.map_some,oB];cases c_ s.l i with
    | none=>rfl
    | some b =>
     simp only [Option.map_some,oB,show (b8 a).aa=a.aa from rfl,show (b8 b).aa=b.aa from rfl,Ly s f g i n]
theorem Ut (t:ah) (i:Int):xl (bq t).aF i=xl t.aF i:=Ly t.aF _ rfl i F0 0
theorem Fq {c:Z3}(h:c.eY=iS) (v:Z9):q7 c v=some (!((!c.fK)||(!decide (v.ai=(7:Int))))):=by
 unfold q7;rw [h];cases ((!c.fK)||(!decide (v.ai=(7:Int))))<;>rfl
def lz (d:ak) (k:Z3->aL->Z9->Int->Option (Z9×Z3)):Prop:=∀{c c':Z3}{t:aL}{v w x y:Z9}{L:Int}{z b:Z3},Rw d c c'->Nz v w->Rd d t.aa->t.aH.l.length<=1048576->k c t v L=some (x,z)->k c' t w L=some (y,b)->Rw d z b
theorem Lz {d:ak}{k:Z3->aL->Z9->Int->Option (Z9×Z3)}(hk:lz d k){t:aL}(ht:Rd d t.aa) (hl:t.aH.l.length<=1048576) (L:Int):∀(l l':List Z9){c c':Z3}{a j b b':Z9}{z g:Z3},l.map nz=l'.map nz->Rw d c c'->jD t L k l c a=some (z,b)->jD t L k l' c' j=some (g,b')->Rw d z g
 | [],[],c,c',a,j,b,b',z,g,_,h,e,f=>by
  rw [jD] at e f;cases e; cases f; exact h
 | [],_::_,c,c',a,j,b,b',z,g,hm,_,_,_=>by simp at hm
 | _::_,[],c,c',a,j,b,b',z,g,hm,_,_,_=>by simp at hm
 | v::l,w::l',c,c',a,j,b,b',z,g,hm,h,e,f=>by
  rw [List.map_cons,List.map_cons] at hm;obtain⟨h1,p⟩:=List.cons.inj hm;rw [jD] at e f;simp only [on] at e f;rw [h.er] at f;cases m:decide (c.dh=(0:Int))
  ·rw [m,cond_false] at e f; cases e; cases f; exact h
  ·rw [m,cond_true] at e f;obtain⟨q,f1,e⟩:=bx e;obtain⟨s,f2,f⟩:=bx f;rw [f1] at f2;obtain rfl:=oJ f2;obtain⟨r,g1,e⟩:=bx e;obtain⟨u,g2,f⟩:=bx f;obtain⟨_,_,e⟩:=bx e;obtain⟨_,_,f⟩:=bx f;exact Lz (k:=k) hk ht hl L l l' p (hk h ⟨h1⟩ ht hl g1 g2) e f
theorem LA {d:ak}{k k2:Z3->aL->Z9->Int->Option (Z9×Z3)}(hk:lz d k) (H:lz d k2) (t:ah){v w:Z9}(hv:Nz v w) (L:Int):∀(l:List Z7) (i:Nat){c c':Z3}{a g b b':Z9}{z s:Z3},(∀x∈l,Rd d x.av.aa/\x.av.aH.l.length<=1048576)->Rw d c c' ->
  g_ t v L k k2 l i c a=some (z,b)->g_ (bq t) w L k k2 (l.map b8) i c' g=some (s,b')->Rw d z s
 | [],i,c,c',a,g,b,b',z,s,_,h,e,f=>by
  rw [List.map_nil] at f;rw [g_] at e f;cases e; cases f; exact h
 | x::l,i,c,c',a,g,b,b',z,s,hx,h,e,f=>by
  obtain⟨I,J⟩:=hx x (.head _);rw [List.map_cons] at f;rw [g_] at e f;simp only [on] at e f;rw [h.er,Ut] at f;cases K:decide (c.dh=(0:Int))
  ·rw [K,cond_false] at e f; cases e; cases f; exact h
  ·rw [K,cond_true] at e f;obtain⟨q,f1,e⟩:=bx e;obtain⟨X,f2,f⟩:=bx f;rw [f1] at f2;obtain rfl:=oJ f2;obtain⟨r,g1,e⟩:=bx e;obtain⟨C,g2,f⟩:=bx f;have step:Rw d r.1 C.1->Rw d z s:=fun hr=>LA (k:=k) (k2:=k2) hk H t hv L l (i+1) (fun y P=>hx y (.tail _ P)) hr e f;refine step ?_;cases q
   ·rw [cond_false] at g1 g2;obtain⟨p,Q,g1⟩:=bx g1;obtain⟨M,R,g2⟩:=bx g2;obtain⟨S,N⟩:=Us hv (b:=p.2) (b':=M.2) (x:=p.1) (y:=M.1) Q R;rw [Fq h.v1] at g1;rw [Fq h.v2,h.li,<- N.kind,<- S] at g2;have rest:∀{g1:Unit},(bif x.ck then((cN L (1:Int)).bind fun E=>(k2 c x.av x.cR E).bind fun B=>(bh 16 a.aR (⟨false,[x.aa]⟩:Sl Bs)).bind fun m=>(bh 80 a.aB (⟨false,[B.1]⟩:Sl Z9)).bind fun j=>some (B.2,(Z9.mk a.ai a.bA a.bp j.nl j.l m))) else(bif iz x.av then((bh 16 a.aR (⟨false,[x.aa]⟩:Sl Bs)).bind fun m=>(bh 80 a.aB (⟨false,[Z9.zero]⟩:Sl Z9)).bind fun j=>some (fq c 22,(Z9.mk a.ai a.bA a.bp j.nl j.l m))) else some (c,a)))=some r ->
     (bif x.ck then((cN L (1:Int)).bind fun E=>(k2 c' x.av (cn x.cR) E).bind fun B=>(bh 16 g.aR (⟨false,[x.aa]⟩:Sl Bs)).bind fun m=>(bh 80 g.aB (⟨false,[B.1]⟩:Sl Z9)).bind fun j=>some (B.2,(Z9.mk g.ai g.bA g.bp j.nl j.l m))) else(bif iz x.av then((bh 16 g.aR (⟨false,[x.aa]⟩:Sl Bs)).bind fun m=>(bh 80 g.aB (⟨false,[Z9.zero]⟩:Sl Z9)).bind fun j=>some (fq c' 22,(Z9.mk g.ai g.bA g.bp j.nl j.l m))) else some (c',g)))=some C->Rw d r.1 C.1:=by
     intro _ g1 g2;cases hh:x.ck
     ·rw [hh,cond_false] at g1 g2;cases hn:iz x.av
      ·rw [hn,cond_false] at g1 g2; cases g1; cases g2; exact h
      ·rw [hn,cond_true] at g1 g2;obtain⟨_,_,g1⟩:=bx g1;obtain⟨_,_,g1⟩:=bx g1;obtain⟨_,_,g2⟩:=bx g2;obtain⟨_,_,g2⟩:=bx g2;cases g1; cases g2; exact h.fail 22
     ·rw [hh,cond_true] at g1 g2;obtain⟨U,m1,g1⟩:=bx g1;obtain⟨W,m2,g2⟩:=bx g2;rw [m1] at m2;obtain rfl:=oJ m2;obtain⟨u,F,g1⟩:=bx g1;obtain⟨u',G,g2⟩:=bx g2;obtain⟨_,_,g1⟩:=bx g1;obtain⟨_,_,g1⟩:=bx g1;obtain⟨_,_,g2⟩:=bx g2;obtain⟨_,_,g2⟩:=bx g2;cases g1; cases g2;exact H h (Nz.cp _) I J F G
    cases O:p.2
    ·rw [O] at g1 g2;exact rest (g1:=()) g1 g2
    ·rw [O] at g1 g2;simp only [aZ,if_true,oB,Bool.true_and] at g1 g2;cases hm:(!((!c.fK)||(!decide (p.1.ai=(7:Int)))))
     ·rw [hm,Bool.not_false,cond_true] at g1 g2;obtain⟨U,m1,g1⟩:=bx g1;obtain⟨W,m2,g2⟩:=bx g2;rw [m1] at m2;obtain rfl:=oJ m2;obtain⟨u,F,g1⟩:=bx g1;obtain⟨u',G,g2⟩:=bx g2;obtain⟨_,_,g1⟩:=bx g1;obtain⟨_,_,g1⟩:=bx g1;obtain⟨_,_,g2⟩:=bx g2;obtain⟨_,_,g2⟩:=bx g2;cases g1; cases g2;exact hk h N I J F G
     ·rw [hm,Bool.not_true,cond_false] at g1 g2;exact rest (g1:=()) g1 g2
   ·rw [cond_true] at g1 g2; cases g1; cases g2; exact h
def Fs (d:ak) (k:Z3->ah->Z9->Int->Option (Z9×Z3)):Prop:=∀{c c':Z3}{t:ah}{v w x y:Z9}{L:Int}{z b:Z3},Rw d c c'->Nz v w->(∀x∈t.aF.l,Rd d x.av.aa/\x.av.aH.l.length<=1048576)->k c t v L=some (x,z)->k c' (bq t) w L=some (y,b)->Rw d z b
def vt (d:ak):Prop:=∀n,Rd d n->∀x∈(bl d.aj.l n).1.aF.l,Rd d x.av.aa/\x.av.aH.l.length<=1048576
theorem Uu {d:ak}{n:Nat}(hk:lz d (eM n)):lz d (lq (n+1)):=by
 intro c c' t v w x y L z f h hv ht hl e b;rw [lq] at e b;simp only [on] at e b;rw [<- hv.kind] at b;obtain⟨r,f1,e⟩:=bx e;obtain⟨g,f2,b⟩:=bx b;cases e; cases b;refine Lz (k:=eM n) hk ht hl L _ _ ?_ h f1 f2;cases decide (v.ai=5)
 ·show [nz v]=[nz w]; rw [hv.e]
 ·exact hv.items
theorem Uv {d:ak}{n:Nat}(hk:lz d (eM n)):lz d (iB (n+1)):=by
 intro c c' t v w x y L z f h hv ht hl e b;rw [iB] at e b;rw [h.co,h.er] at b;obtain⟨r,f1,e⟩:=bx e;obtain⟨g,f2,b⟩:=bx b;cases e; cases b;have:=hk (c:=Z3.mk c.Fd iS true c.kL c.dh) (c':=Z3.mk c'.Fd iS true c.kL c.dh) ⟨h.d1,h.d2,rfl,rfl,rfl,rfl,rfl⟩ hv ht hl f1 f2;exact⟨this.d1,this.d2,h.v1,h.v2,h.li,this.co,this.er⟩
theorem Uw {d:ak}{n:Nat}(hk:lz d (eM n)) (g:lz d (iB n)):Fs d (lu (n+1)):=by
 intro c c' t v w x y L z j h hv hi e b;rw [lu] at e b;simp only [on] at e b;rw [<- hv.kind,<- hv.keys] at b;cases f:decide (v.ai=(6:Int))
 ·rw [f] at e b; cases e; cases b; exact h.fail 23
 ·rw [f,Bool.not_true,cond_false] at e b;obtain⟨r,f1,e⟩:=bx e;obtain⟨m,f2,b⟩:=bx b;cases e; cases b;exact LA (k:=eM n) (k2:=iB n) hk g t hv L t.aF.l 0 hi (Rw.keys t v.aR.l h) f1 f2
theorem Ux {d:ak}(F:vt d){n:Nat}(hl:lz d (lq n)) (G:Fs d (lu n)):lz d (eM (n+1)):=by
 intro c c' t v w x y L z q h hv ht hw e b;have main:∀{v w:Z9},Nz v w->∀{x y:Z9}{z q:Z3},
   ((l8 c L).bind fun f=>bif (!decide (f.dh=(0:Int))) then(some ((Z9.mk 0 0 [] true [] Sl.nil),f)) else(bif (decide (v.ai=(0:Int))) then some ((Z9.mk 0 0 [] true [] Sl.nil),bif iz t then fq f (23:Int) else(f)) else((mQ t).bind fun j=>bif j.2 then(((lq n) f j.1 v L).bind fun k=>some (k.1,k.2)) else(bif jq t.aa then((lg f t.aa v).bind fun m=>some (m.1,m.2)) else(bif (decide ((eR f.Fd t.aa).1.ai=(4:Int))) then some ((lp f (eR f.Fd t.aa).1 v).1,(lp f (eR f.Fd t.aa).1 v).2) else(((lu n) f (eR f.Fd t.aa).1 v L).bind fun p=>some (p.1,p.2)))))))=some (x,z) ->
   ((l8 c' L).bind fun f=>bif (!decide (f.dh=(0:Int))) then(some ((Z9.mk 0 0 [] true [] Sl.nil),f)) else(bif (decide (w.ai=(0:Int))) then some ((Z9.mk 0 0 [] true [] Sl.nil),bif iz t then fq f (23:Int) else(f)) else((mQ t).bind fun j=>bif j.2 then(((lq n) f j.1 w L).bind fun k=>some (k.1,k.2)) else(bif jq t.aa then((lg f t.aa w).bind fun m=>some (m.1,m.2)) else(bif (decide ((eR f.Fd t.aa).1.ai=(4:Int))) then some ((lp f (eR f.Fd t.aa).1 w).1,(lp f (eR f.Fd t.aa).1 w).2) else(((lu n) f (eR f.Fd t.aa).1 w L).bind fun p=>some (p.1,p.2)))))))=some (y,q)->Rw d z q:=by
  intro v w hv x y z q e b;obtain⟨a,a1,e⟩:=bx e;obtain⟨H,a2,b⟩:=bx b;have g:=h.node a1 a2;rw [g.er,<- hv.kind] at b;cases h0:decide (a.dh=0)
  ·rw [h0] at e b; cases e; cases b; exact g
  ·rw [h0,Bool.not_true,cond_false] at e b;cases h1:decide (v.ai=0)
   ·rw [h1,cond_false,zu hw,oB] at e b;cases u:gX (cr t.aH).l
    ·rw [u] at e b;simp only [cond_false] at e b;cases B:jq t.aa
     ·rw [B,cond_false] at e b;rw [g.d1,ko] at e;rw [g.d2,ko,oI ht] at b;simp only [show ∀t,(bq t).ai=t.ai from fun _=>rfl] at b;cases C:decide ((bl d.aj.l t.aa).1.ai=(4:Int))
      ·rw [C,cond_false] at e b;obtain⟨r,f1,e⟩:=bx e;obtain⟨E,f2,b⟩:=bx b;cases e; cases b;exact G g hv (F _ ht) f1 f2
      ·rw [C,cond_true] at e b;cases e; cases b;exact g.Ur hv _
     ·rw [B,cond_true] at e b;obtain⟨r,f1,e⟩:=bx e;obtain⟨E,f2,b⟩:=bx b;cases e; cases b;exact g.scalar hv f1 f2
    ·rw [u] at e b;simp only [cond_true] at e b;obtain⟨r,f1,e⟩:=bx e;obtain⟨E,f2,b⟩:=bx b;cases e; cases b;have s:=zp t.aH;exact hl (t:=⟨t.aa,⟨false,(cr t.aH).l.drop 1⟩⟩) g hv ht (by show ((cr t.aH).l.drop 1).length<=_; rw [List.length_drop]; omega) f1 f2
   ·rw [h1,cond_true] at e b;cases e; cases b;cases iz t
    ·exact g
    ·exact g.fail 23
 rw [eM] at e b;simp only [on] at e b;rw [h.d1] at e;rw [h.d2,K0 ht,h.li,<- hv.kind] at b;cases hi:jN d t.aa
 ·rw [hi] at e b; cases e; cases b; exact h.fail 10
 ·rw [hi,Bool.not_true,cond_false] at e b;cases s:c.fK&&decide (v.ai=7)
  ·rw [s,cond_false] at e b;exact main hv e (by rw [<- hv.kind]; exact b)
  ·rw [s,cond_true,h.v1] at e;rw [s,cond_true,h.v2] at b;exact main (v:=iS) (w:=iS) ⟨rfl⟩ e b
theorem LB {d:ak}(f:vt d):∀n,lz d (eM n)/\lz d (lq n)/\Fs d (lu n)/\lz d (iB n)
 | 0=>by
  refine⟨?_, ?_, ?_, ?_⟩
  ·intro c c' t v w x y L z b _ _ _ _ e; rw [eM] at e; cases e
  ·intro c c' t v w x y L z b _ _ _ _ e; rw [lq] at e; cases e
  ·intro c c' t v w x y L z b _ _ _ e; rw [lu] at e; cases e
  ·intro c c' t v w x y L z b _ _ _ _ e; rw [iB] at e; cases e
 | n+1=>by
  obtain⟨h1,g,j,k⟩:=LB f n;exact⟨Ux f g j,Uu h1,Uw h1 k,Uv h1⟩
end Go.Proofs
