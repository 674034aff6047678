import Derived.Test.YtimiconoebjfbaaGreatDoorV8
import Derived.Test.YtimiconoebjfbaaGreatDoorRows
set_option maxRecDepth 100000
set_option maxHeartbeats 2000000
set_option linter.unusedVariables false
set_option linter.unusedSimpArgs false
namespace Go.Proofs.U16
open Go Go.Ab Go.Proofs
def Rel (o r:Sl Bs):Prop:=r.l=dd o.l
theorem rhasAux (s:Bs) (l:List Bs):Z100_q5 s l=bif l.contains s then Sum.inr true else Sum.inl ():=by
 induction l with
 | nil=>rfl
 | cons a r ih =>
  rw [Z100_q5];simp only [Ab.on,ih,List.contains_cons];rw [show (s==a)=(a==s) from Bool.beq_comm];cases a==s<;>rfl
theorem rhas_eq (a:Sl Bs) (s:Bs):Z100_q a s=a.l.contains s:=by
 unfold Z100_q; simp only [Ab.on]; rw [rhasAux]; cases a.l.contains s<;>rfl
def Both (p f:Option (Sl Bs)) (o:Sl Bs) (n:Nat):Prop:=∃o' r',p=some o'/\f=some r'/\Rel o' r'/\o'.l.length<=o.l.length+n
theorem Both.id {o r:Sl Bs}(h:Rel o r) (n:Nat):Both (some o) (some r) o n:=⟨o,r,rfl,rfl,h,by omega⟩
theorem Both.bind {p f:Option (Sl Bs)}{k k':Sl Bs->Option (Sl Bs)}{o:Sl Bs}{n m t:Nat}(h:Both p f o n) (ht:n+m<=t)
  (hk:∀o' r',Rel o' r'->o'.l.length<=o.l.length+n->Both (k o') (k' r') o' m):Both (p.bind k) (f.bind k') o t:=by
 obtain⟨o1,r1,e1,e2,h1,h2⟩:=h;obtain⟨o2,r2,e3,e4,h3,h4⟩:=hk o1 r1 h1 h2;exact⟨o2,r2,by rw [e1]; exact e3,by rw [e2]; exact e4,h3,by omega⟩
theorem val_both:∀(n:Nat) (v:Z7) (o r:Sl Bs),v.sz<n->Rel o r->o.l.length+v.sz<=bigL->Both (Z149_qn n v o) (Z101_qn n v r) o v.sz
 | 0,_,_,_,h,_,_=>by omega
 | n+1,v,o,r,hn,hr,hb=>by
  have hs:=v.sz_def;have hp:=Bs.sz_pos v.FText;rw [Z149_qn,Z101_qn];unfold bigL at hb;cases h7:decide (v.FKind=7)
  ·have hl:∀(l:List Z7) (o r:Sl Bs),(∀x∈l,x.sz<n)->Rel o r->o.l.length+(l.map Z7.sz).sum<=bigL->(decide (v.FKind=5)||decide (v.FKind=6))=true ->
     Both (Z149_q15 (Z149_qn n) l o) (Z101_q16 v (Z101_qn n) l r) o (l.map Z7.sz).sum:=by
    intro l;induction l with
    | nil=>intro o r _ h _ _; exact Both.id h _
    | cons a t ih =>
     intro o r hx h hb hk;simp only [List.map_cons,List.sum_cons] at hb ⊢;rw [Z149_q15,Z101_q16,hk];simp only [Ab.on,cond_true];exact(val_both n a o r (hx a (by simp)) h (by omega)).bind (Nat.le_refl _) fun o' r' h1 h2=>ih o' r' (fun x hx'=>hx x (by simp [hx'])) h1 (by omega) hk
   have hsum:(v.FItems.l.map Z7.sz).sum+1=Sl.sz Z7.sz v.FItems:=by unfold Sl.sz; omega
   have hmem:∀x∈v.FItems.l,x.sz<n:=fun x hx=>by have:=Sl.mem_le (f:=Z7.sz) hx; omega
   simp only [cond_false,Ab.on];cases hk:(decide (v.FKind=5)||decide (v.FKind=6))
   ·have h5:decide (v.FKind=5)=false:=by simp only [Bool.or_eq_false_iff] at hk; exact hk.1
    have h6:decide (v.FKind=6)=false:=by simp only [Bool.or_eq_false_iff] at hk; exact hk.2
    have e:Z101_q16 v (Z101_qn n) v.FItems.l r=some r:=by
     cases v.FItems.l with
     | nil=>rfl
     | cons a t=>rw [Z101_q16,hk]; rfl
    rw [h5,h6,e];exact Both.id hr _
   ·have e:(bif decide (v.FKind=5) then decide (v.FKind=5) else decide (v.FKind=6))=true:=by
     cases h5:decide (v.FKind=5)<;>simp_all
    rw [e];have h1:=hl v.FItems.l o r hmem hr (by unfold bigL; omega) hk;obtain⟨o',r',e1,e2,h2,h3⟩:=h1;exact⟨o',r',by rw [e1]; rfl,by rw [e2]; rfl,h2,by omega⟩
  ·simp only [cond_true,Ab.on,rhas_eq];rw [appC_ok (by decide) (by simp; omega),Option.bind_some];have hr':r.l=dd o.l:=hr;have hdl:=dd_len o.l;cases hc:r.l.contains v.FText
   ·simp only [Bool.not_false,cond_true];rw [appC_ok (by decide) (by rw [hr']; simp; omega),Option.bind_some,Option.bind_some];refine⟨_,_,rfl,rfl, ?_,by simp; omega⟩;show r.l++[v.FText]=dd (o.l++[v.FText]);rw [dd_snoc,<- hr',addU,hc]; rfl
   ·simp only [Bool.not_true,cond_false,Option.bind_some];refine⟨_,_,rfl,rfl, ?_,by simp; omega⟩;show r.l=dd (o.l++[v.FText]);rw [dd_snoc,<- hr',addU,hc]; rfl
theorem val_top (v:Z7) (o r:Sl Bs) (hv:v.sz<=1048576) (h:Rel o r) (hb:o.l.length+v.sz<=bigL):Both (Z149_q v o) (Z101_q v r) o v.sz :=
 val_both F0 v o r (by rw [F0_eq]; omega) h hb
theorem args_both:∀(l:List TArg) (o r:Sl Bs),(∀a∈l,a.sz<=1048576)->Rel o r->o.l.length+(l.map TArg.sz).sum<=bigL->Both (Z150_q63 l o) (Z102_q65 l r) o (l.map TArg.sz).sum
 | [],o,r,_,h,_=>Both.id h _
 | a::t,o,r,hx,h,hb=>by
  have hs:=a.sz_def;have ha:=hx a (by simp);simp only [List.map_cons,List.sum_cons] at hb ⊢;rw [Z150_q63,Z102_q65];simp only [Ab.on];exact(val_top a.FValue o r (by omega) h (by omega)).bind (by omega) fun o' r' h1 h2=>args_both t o' r' (fun x hx'=>hx x (by simp [hx'])) h1 (by omega)
theorem dargs_both (y:TDir):∀(l:List TArg) (o r:Sl Bs),(∀a∈l,a.sz<=1048576)->Rel o r->o.l.length+(l.map TArg.sz).sum<=bigL->Both (Z150_q51 l o) (Z102_q52 y l r) o (l.map TArg.sz).sum
 | [],o,r,_,h,_=>Both.id h _
 | a::t,o,r,hx,h,hb=>by
  have hs:=a.sz_def;have ha:=hx a (by simp);simp only [List.map_cons,List.sum_cons] at hb ⊢;rw [Z150_q51,Z102_q52];simp only [Ab.on];exact(val_top a.FValue o r (by omega) h (by omega)).bind (by omega) fun o' r' h1 h2=>dargs_both y t o' r' (fun x hx'=>hx x (by simp [hx'])) h1 (by omega)
theorem dirs_both:∀(l:List TDir) (o r:Sl Bs),(∀a∈l,a.sz<=1048576)->Rel o r->o.l.length+(l.map TDir.sz).sum<=bigL->Both (Z150_q39 l o) (Z102_q42 l r) o (l.map TDir.sz).sum
 | [],o,r,_,h,_=>Both.id h _
 | a::t,o,r,hx,h,hb=>by
  have hs:=a.sz_def;have ha:=hx a (by simp);have hsum:(a.FArgs.l.map TArg.sz).sum+1=Sl.sz TArg.sz a.FArgs:=by unfold Sl.sz; omega
  simp only [List.map_cons,List.sum_cons] at hb ⊢;rw [Z150_q39,Z102_q42];simp only [Ab.on];refine Both.bind (m:=(t.map TDir.sz).sum) (dargs_both a a.FArgs.l o r (fun x hx'=>by have:=Sl.mem_le (f:=TArg.sz) hx'; omega) h (by omega)) (by omega) fun o' r' h1 h2=>?_;exact dirs_both t o' r' (fun x hx'=>hx x (by simp [hx'])) h1 (by omega)
def Wlk (fr:Sl Z3) (T:Nat) (p:Option (Sl Bs×List Bs)) (f:Option (Sl Bs×Sl Bs)) (o:Sl Bs) (sp:List Bs) (sr:Sl Bs) (m:Nat):Prop :=
 ∃o' r' sp' sr',p=some (o',sp')/\f=some (r',sr')/\Rel o' r'/\(∀x,x∈sr'.l↔x∈sp')/\(∀x∈sp,x∈sp')/\sr'.l.length+unseen fr sp'<=sr.l.length+unseen fr sp/\o'.l.length+wgt fr T sp'<=o.l.length+wgt fr T sp+m
theorem sel_all (s:TSel):(s.FArgs.l.map TArg.sz).sum+(s.FDirs.l.map TDir.sz).sum+(s.FSels.l.map TSel.sz).sum+4<=s.sz:=by
 have h:=s.sz_def; have h1:=Bs.sz_pos s.FAlias; have h2:=Bs.sz_pos s.FName;have h3:(s.FArgs.l.map TArg.sz).sum+1=Sl.sz TArg.sz s.FArgs:=by unfold Sl.sz; omega
 have h5:(s.FDirs.l.map TDir.sz).sum+1=Sl.sz TDir.sz s.FDirs:=by unfold Sl.sz; omega
 have h4:(s.FSels.l.map TSel.sz).sum+1=Sl.sz TSel.sz s.FSels:=by unfold Sl.sz; omega
 omega
theorem walk_step {q:Z6}{T n:Nat}(hT1:T<=1048576) (hT:∀f∈q.FFrags.l,(f.FSels.l.map TSel.sz).sum<=T)
  (ih:∀(l:Sl TSel) (o r:Sl Bs) (sp:List Bs) (sr:Sl Bs),wgt q.FFrags T sp+(l.l.map TSel.sz).sum<n->(l.l.map TSel.sz).sum<=T->Rel o r->(∀x,x∈sr.l↔x∈sp)->sr.l.length+unseen q.FFrags sp<=1048576 ->
   o.l.length+wgt q.FFrags T sp+(l.l.map TSel.sz).sum<=bigL->Wlk q.FFrags T (Z150_qn n q l sp o) (Z102_qn n q l r sr) o sp sr (l.l.map TSel.sz).sum) :
  ∀(l:List TSel) (o r:Sl Bs) (sp:List Bs) (sr:Sl Bs),wgt q.FFrags T sp+(l.map TSel.sz).sum<=n->(l.map TSel.sz).sum<=T->Rel o r->(∀x,x∈sr.l↔x∈sp)->sr.l.length+unseen q.FFrags sp<=1048576 ->
   o.l.length+wgt q.FFrags T sp+(l.map TSel.sz).sum<=bigL->Wlk q.FFrags T (Z150_q8 q (Z150_qn n) l o sp) (Z102_q7 q (Z102_qn n) l r sr) o sp sr (l.map TSel.sz).sum
 | [],o,r,sp,sr,_,_,h,hs,_,_=>⟨o,r,sp,sr,rfl,rfl,h,hs,fun _ h=>h,Nat.le_refl _,by omega⟩
 | h::t,o,r,sp,sr,hn,hl,hr,hs,hu,hb=>by
  simp only [List.map_cons,List.sum_cons] at hn hl hb ⊢;have hp:=sel_all h;have ha:=args_both h.FArgs.l o r (fun x hx=>by have:=sum_mem (f:=TArg.sz) hx; omega) hr (by omega);obtain⟨o1,r1,e1,e2,hr1,hl1⟩:=ha;obtain⟨o2,r2,e3,e4,hr2,hl2⟩:=dirs_both h.FDirs.l o1 r1 (fun x hx=>by have:=sum_mem (f:=TDir.sz) hx; omega) hr1 (by omega);rw [Z150_q8,Z102_q7];simp only [Ab.on,ffind_eq,rfind_eq,rhas_eq];rw [e1,e2,Option.bind_some,Option.bind_some,e3,e4,Option.bind_some,Option.bind_some]
  -- the rest of the list
  have rest:∀(p:Option (Sl Bs×List Bs)) (f:Option (Sl Bs×Sl Bs)),Wlk q.FFrags T p f o2 sp sr (h.FSels.l.map TSel.sz).sum ->
    Wlk q.FFrags T (p.bind fun z=>Z150_q8 q (Z150_qn n) t z.1 z.2) (f.bind fun z=>Z102_q7 q (Z102_qn n) t z.1 z.2) o sp sr (h.sz+(t.map TSel.sz).sum):=by
   rintro p f ⟨o3,r3,sp3,sr3,f1,f2,f3,f4,f5,f6,f7⟩;have hw:=wgt_le (fr:=q.FFrags) (T:=T) f5;obtain⟨o4,r4,sp4,sr4,g1,g2,g3,g4,g5,g6,g7⟩:=walk_step hT1 hT ih t o3 r3 sp3 sr3 (by omega) (by omega) f3 f4 (by omega) (by omega);exact⟨o4,r4,sp4,sr4,by rw [f1]; exact g1,by rw [f2]; exact g2,g3,g4,fun x hx=>g5 x (f5 x hx),by omega,by omega⟩
  refine rest _ _ ?_;cases decide (h.FKind=2)
  ·simp only [cond_false];obtain⟨o3,r3,sp3,sr3,f1,f2,f3⟩:=ih h.FSels o2 r2 sp sr (by omega) (by omega) hr2 hs hu (by omega);exact⟨o3,r3,sp3,sr3,by rw [f1]; rfl,by rw [f2]; rfl,f3⟩
  ·simp only [cond_true];cases hf:(fndG q.FFrags.l h.FName).2
   ·exact⟨o2,r2,sp,sr,rfl,rfl,hr2,hs,fun _ h=>h,Nat.le_refl _,by omega⟩
   ·obtain⟨hn1,hm⟩:=fndG_name hf;have hcc:sr.l.contains h.FName=sp.contains h.FName:=by rw [Bool.eq_iff_iff]; simp [hs]
    simp only [Bool.not_true,Bool.not_false,cond_true,Bool.false_or];rw [hcc];cases hc:sp.contains h.FName
    ·have hc':h.FName∉sp:=by simpa using hc
     simp only [cond_false];have hsub:∀x∈sp,x∈insS sp h.FName:=fun x hx=>(insS_mem' _ _ _).2 (.inl hx);have hin:h.FName∈insS sp h.FName:=(insS_mem' _ _ _).2 (.inr rfl);have hlt:=unseen_lt (fr:=q.FFrags) hsub hm (by rw [hn1]; exact hc') (by rw [hn1]; exact hin);have hwl:=wgt_lt (fr:=q.FFrags) (T:=T) hsub hm (by rw [hn1]; exact hc') (by rw [hn1]; exact hin);have hTm:=hT _ hm;rw [appC_ok (by decide) (by simp only [List.length_singleton]; omega),Option.bind_some]
     obtain⟨o3,r3,sp3,sr3,f1,f2,f3,f4,f5,f6,f7⟩:=ih (fndG q.FFrags.l h.FName).1.FSels o2 r2 (insS sp h.FName) ⟨sr.nl&&List.isEmpty [h.FName],sr.l++[h.FName]⟩ (by omega) hTm hr2
      (fun x=>by rw [insS_mem',List.mem_append,List.mem_singleton,hs]) (by simp only [List.length_append,List.length_singleton]; omega) (by omega)
     simp only [List.length_append,List.length_singleton] at f6;exact⟨o3,r3,sp3,sr3,by rw [f1]; rfl,by rw [f2]; rfl,f3,f4,fun x hx=>f5 x (hsub x hx),by omega,by omega⟩
    ·simp only [cond_true];exact⟨o2,r2,sp,sr,rfl,rfl,hr2,hs,fun _ h=>h,Nat.le_refl _,by omega⟩
theorem walk_both {q:Z6}{T:Nat}(hT1:T<=1048576) (hT:∀f∈q.FFrags.l,(f.FSels.l.map TSel.sz).sum<=T):∀(n:Nat) (l:Sl TSel) (o r:Sl Bs) (sp:List Bs) (sr:Sl Bs),wgt q.FFrags T sp+(l.l.map TSel.sz).sum<n->(l.l.map TSel.sz).sum<=T->Rel o r->(∀x,x∈sr.l↔x∈sp)->sr.l.length+unseen q.FFrags sp<=1048576 ->
   o.l.length+wgt q.FFrags T sp+(l.l.map TSel.sz).sum<=bigL->Wlk q.FFrags T (Z150_qn n q l sp o) (Z102_qn n q l r sr) o sp sr (l.l.map TSel.sz).sum
 | 0,_,_,_,_,_,h,_,_,_,_,_=>by omega
 | n+1,l,o,r,sp,sr,hn,hl,hr,hs,hu,hb=>by
  obtain⟨o3,r3,sp3,sr3,f1,f2,f3⟩:=walk_step hT1 hT (walk_both hT1 hT n) l.l o r sp sr (by omega) hl hr hs hu hb;exact⟨o3,r3,sp3,sr3,by rw [Z150_qn,f1]; rfl,by rw [Z102_qn,f2]; rfl,f3⟩
theorem used_ref {q:Z6}(hq:QV q){i:Nat}{o:TOp}(ho:q.FOps.l[i]?=some o):∃r,Z99_q q (i:Int)=some r/\∀u,Z141_q q (i:Int)=some u->r.l=u.l:=by
 have hlt:i<q.FOps.l.length:=(List.getElem?_eq_some_iff.1 ho).1;have hmem:o∈q.FOps.l:=List.mem_of_getElem? ho;have hs:=hq.osz o hmem;have hs2:=@op_sels o;have hu:=unseen_all q.FFrags [];have h1:=hq.frags;have hw:wgt q.FFrags 1048576 []<=12*(1048576+1):=Nat.mul_le_mul_right _ (by omega);obtain⟨w,r,sp,sr,e1,e2,e3,-⟩:=walk_both (T:=1048576) (Nat.le_refl _) (fun f hf=>by have:=hq.fsz f hf; have:=@frag_sels f; omega) F0 o.FSels Sl.nil Sl.nil [] Sl.nil (by rw [F0_eq]; omega) (by omega) rfl (fun x=>by simp [Sl.nil]) (by simp only [Sl.nil,List.length_nil]; omega) (by simp only [Sl.nil,List.length_nil]; unfold bigL; omega)
 refine⟨r, ?_,fun u hu=>?_⟩
 ·unfold Z99_q;have hidx:idxC q.FOps.l (i:Int)=some o:=by unfold idxC; rw [if_pos (by simp),Int.toNat_natCast,ho]
  rw [show decide ((i:Int)<(0:Int))=false from decide_eq_false (by omega),show decide (((q.FOps.l.length:Nat):Int)<=(i:Int))=false from decide_eq_false (by omega),Bool.or_self,cond_false,hidx,Option.bind_some];unfold Z102_q;rw [e2];rfl
 ·obtain⟨u',w',sp',f1,f2,f3,-⟩:=used_told hq ho;rw [e1] at f1;cases f1;rw [hu] at f2;cases f2;rw [f3]; exact e3
end Go.Proofs.U16

namespace Go.Proofs
open Go Go.Ab
theorem appC_big {α:Type}{z:Nat}{s r:Sl α}(hz:z<=200) (h:s.l.length+r.l.length<=1048576):appC z s r=some ⟨s.nl&&r.l.isEmpty,s.l++r.l⟩:=by
 unfold appC; rw [if_pos];have:(s.l.length+r.l.length)*z<=(s.l.length+r.l.length)*200:=Nat.mul_le_mul_left _ hz;unfold maxN; omega
theorem hid_ex:hid (Z23 ) 0=some true:=by rw [hid_eq,example16]
theorem faults_loopV (b:Sl Z1):∀(l:List Z1) (i:Nat),l=b.l.drop i->Z52_q11 b l i=some (Sum.inl ())
 | [],_,_=>rfl
 | a::r,i,h=>by
  obtain⟨-,h2,h3⟩:=take_next h.symm;rw [Z52_q11];simp only [Ab.on];rw [h3,Option.bind_some];simp only [decide_true,beq_self_eq_true,Bool.and_self,Bool.not_true,cond_false];exact faults_loopV b r (i+1) h2.symm
theorem faults_eqV (a b:Sl Z1) (h:a.l=b.l):Z52 a b=some true:=by
 rw [Z52_eq];unfold Z52_q;rw [h,decide_eq_true rfl,Bool.not_true,cond_false,faults_loopV b b.l 0 rfl];rfl
theorem partC_drop {α:Type}{s:Sl α}{i:Nat}(h:i<=s.l.length):partC s (some ((i:Nat):Int)) none=some ⟨s.nl,s.l.drop i⟩:=by
 unfold partC;rw [if_pos (by simp; omega)];simp
theorem shift {α:Type}{a b p t:List α}{F:α}(ha:a=p++t) (hb:b=p++F::t){s:Nat}(hs:s<=a.length) (hj:∀j<s,a[j]?=b[j]?) (he:s=a.length\/a[s]?≠b[s]?):b[s]?=some F/\a.drop s=b.drop (s+1):=by
 subst ha hb;have hp:p.length<=s:=by
  rcases Nat.lt_or_ge s p.length with h|h
  ·rcases he with e|e
   ·rw [e,List.length_append] at h; omega
   ·exact absurd (by rw [List.getElem?_append_left h,List.getElem?_append_left h]) e
  ·exact h
 have hsh:∀j,p.length<=j->(p++F::t)[j+1]?=(p++t)[j]?:=fun j h=>by
  rw [List.getElem?_append_right (by omega),List.getElem?_append_right h,show j+1-p.length=(j-p.length)+1 by omega,List.getElem?_cons_succ]
 constructor
 ·have:∀k,p.length+k<=s->(p++F::t)[p.length+k]?=some F:=by
   intro k;induction k with
   | zero=>intro _; rw [Nat.add_zero,List.getElem?_append_right (Nat.le_refl _),Nat.sub_self]; rfl
   | succ k ih =>
    intro h;rw [<- Nat.add_assoc,hsh _ (by omega),hj _ (by omega)];exact ih (by omega)
  have h:=this (s-p.length) (by omega)
  rwa [show p.length+(s-p.length)=s by omega] at h
 ·refine List.ext_getElem? fun i=>?_;rw [List.getElem?_drop,List.getElem?_drop,show s+1+i=(s+i)+1 by omega,hsh _ (by omega)]
theorem tf_ext {x y:Z1}(h1:x.FErr=y.FErr) (h2:x.FAt=y.FAt):x=y:=by
 cases x; cases y; cases h1; cases h2; rfl
theorem end_ok {q:Z6}{a2:Int}{o:TOp}(ho:idxC q.FOps.l a2=some o){x y:Sl Z1}{p t:List Z1}(hx:x.l=p++t) (hy:y.l=p++Z1.mk 26 o.FName::t) (hl:x.l.length<=900000000){s:Nat}(hs:s<=x.l.length) (hj:∀j<s,x.l[j]?=y.l[j]?) (he:s=x.l.length\/x.l[s]?≠y.l[s]?) :
  Z22_j34 q a2 x y (s:Int)=some true:=by
 obtain⟨h1,h2⟩:=shift hx hy hs hj he;have hlen:y.l.length=x.l.length+1:=by rw [hx,hy]; simp; omega
 unfold Z22_j34;have hidx:idxC y.l (s:Int)=some (Z1.mk 26 o.FName):=by unfold idxC; rw [if_pos (by simp),Int.toNat_natCast,h1]
 have hB:(decide ((Z1.mk 26 o.FName).FErr=(Z1.mk (26:Int) o.FName).FErr)&&(((Z1.mk 26 o.FName).FAt==(Z1.mk (26:Int) o.FName).FAt)&&true))=true:=by simp
 rw [hidx,Option.bind_some,ho,Option.bind_some,hB];simp only [guardO,if_true];rw [partC_drop hs,Option.bind_some,addC_nat (by omega),hid_eq,Option.bind_some,partC_drop (by omega),Option.bind_some,faults_eqV _ _ h2,Option.bind_some];simp only [Bool.and_self,if_true];rw [hid_ex];rfl
theorem cmp_ok {q:Z6}{a2:Int}{o:TOp}(ho:idxC q.FOps.l a2=some o){x y:Sl Z1}{p t:List Z1}(hx:x.l=p++t) (hy:y.l=p++Z1.mk 26 o.FName::t) (hl:x.l.length<=900000000):∀(n s:Nat),s<=x.l.length->x.l.length<s+n->(∀j<s,x.l[j]?=y.l[j]?) ->
  Z22_l44 q a2 x y n s=some true
 | 0,_,h,h2,_=>by omega
 | n+1,s,hs,hn,hj=>by
  have hlen:y.l.length=x.l.length+1:=by rw [hx,hy]; simp; omega
  rw [Z22_l44];by_cases h:s<x.l.length
  ·rw [show decide (((s:Nat):Int)<((x.l.length:Nat):Int))=true from decide_eq_true (by omega)];simp only [guardO,if_true];rw [List.getElem?_eq_getElem h,List.getElem?_eq_getElem (show s<y.l.length by omega),Option.bind_some,Option.bind_some];by_cases hq:x.l[s]=y.l[s]
   ·rw [show (true&&(decide (x.l[s].FErr=y.l[s].FErr)&&((x.l[s].FAt==y.l[s].FAt)&&true)))=true by rw [hq]; simp,cond_true];refine cmp_ok ho hx hy hl n (s+1) (by omega) (by omega) fun j h'=>?_;rcases Nat.lt_or_ge j s with h2|h2
    ·exact hj j h2
    ·obtain rfl:j=s:=by omega
     rw [List.getElem?_eq_getElem h,List.getElem?_eq_getElem (show j<y.l.length by omega),hq]
   ·rw [show (true&&(decide (x.l[s].FErr=y.l[s].FErr)&&((x.l[s].FAt==y.l[s].FAt)&&true)))=false from ?_,cond_false]
    ·exact end_ok ho hx hy hl hs hj (.inr (by rw [List.getElem?_eq_getElem h,List.getElem?_eq_getElem (show s<y.l.length by omega)]; simpa using hq))
    ·rw [Bool.eq_false_iff];intro hc;simp only [Bool.true_and,Bool.and_true,Bool.and_eq_true,decide_eq_true_eq,beq_iff_eq] at hc;exact hq (tf_ext hc.1 hc.2)
  ·rw [show decide (((s:Nat):Int)<((x.l.length:Nat):Int))=false from decide_eq_false (by omega)];simp only [guardO,Bool.false_eq_true,if_false,Bool.false_and,cond_false];exact end_ok ho hx hy hl hs hj (.inl (by omega))
theorem idx_set {α:Type}{l:List α}{i:Nat}{x y:α}(h:l[i]?=some x):l=l.take i++x::l.drop (i+1)/\l.set i y=l.take i++y::l.drop (i+1):=by
 have hi:i<l.length:=(List.getElem?_eq_some_iff.1 h).1;have e:l=l.take i++x::l.drop (i+1):=by
  have h1:l.drop i=x::l.drop (i+1):=by rw [List.drop_eq_getElem_cons hi,(List.getElem?_eq_some_iff.1 h).2]
  rw [<- h1,List.take_append_drop]
 exact⟨e,by rw [List.set_eq_take_append_cons_drop,if_pos hi]⟩
section
variable {d:TDoc}{q:Z6}{op:Int}{o:TOp}
theorem own_loop {x15:Sl TOp}(ho:idxC q.FOps.l op=some o) (hl:o.FVars.l.length<16) (hk:∀own:Sl TVar,own.l=o.FVars.l->(∀x∈o.FVars.l,x.FName≠zzN)->Z22_j17 d q op x15 own=some true) :
  ∀(n:Nat) (own:Sl TVar) (i:Nat),i<=o.FVars.l.length->o.FVars.l.length<i+n->own.l=o.FVars.l.take i->(∀x∈own.l,x.FName≠zzN)->Z22_l52 d q op x15 n own i=some true
 | 0,_,_,h,h2,_,_=>by omega
 | n+1,own,i,hi,hn,he,hx=>by
  rw [Z22_l52,ho,Option.bind_some];by_cases h:i<o.FVars.l.length
  ·rw [show decide (((i:Nat):Int)<((o.FVars.l.length:Nat):Int))=true from decide_eq_true (by omega),cond_true,Option.bind_some,List.getElem?_eq_getElem h,Option.bind_some];by_cases hz:o.FVars.l[i].FName=zzN
   ·rw [show (o.FVars.l[i].FName==([122,122]:Bs))=true by rw [hz]; rfl,cond_true,hid_ex]; rfl
   ·have hlen:own.l.length=i:=by rw [he,List.length_take]; omega
    rw [show (o.FVars.l[i].FName==([122,122]:Bs))=false by rw [beq_eq_false_iff_ne]; exact hz,cond_false,Option.bind_some,List.getElem?_eq_getElem h,Option.bind_some,appC_big (by decide) (by simp; omega),Option.bind_some];refine own_loop ho hl hk n _ (i+1) (by omega) (by omega) ?_ fun x hx'=>?_
    ·show own.l++[o.FVars.l[i]]=_;rw [he,List.take_add_one,List.getElem?_eq_getElem h]; rfl
    ·rcases List.mem_append.1 hx' with h'|h'
     ·exact hx x h'
     ·rw [List.mem_singleton.1 h']; exact hz
  ·rw [show decide (((i:Nat):Int)<((o.FVars.l.length:Nat):Int))=false from decide_eq_false (by omega),cond_false];rw [List.take_of_length_le (by omega)] at he;exact hk own he (by rw [<- he]; exact hx)
theorem ref_loop {x10:Sl Bs}(hk:zzN∉x10.l->Z22_j11 d q op=some true):∀(n i:Nat),i<=x10.l.length->x10.l.length<i+n->zzN∉x10.l.take i->Z22_l72 d q op x10 n i=some true
 | 0,_,h,h2,_=>by omega
 | n+1,i,hi,hn,hx=>by
  rw [Z22_l72];by_cases h:i<x10.l.length
  ·rw [show decide (((i:Nat):Int)<((x10.l.length:Nat):Int))=true from decide_eq_true (by omega),cond_true,List.getElem?_eq_getElem h,Option.bind_some];by_cases hz:x10.l[i]=zzN
   ·rw [show (x10.l[i]==([122,122]:Bs))=true by rw [hz]; rfl,cond_true,hid_ex]; rfl
   ·rw [show (x10.l[i]==([122,122]:Bs))=false by rw [beq_eq_false_iff_ne]; exact hz,cond_false];refine ref_loop hk n (i+1) (by omega) (by omega) ?_;rw [List.take_add_one,List.getElem?_eq_getElem h];intro hm;rcases List.mem_append.1 hm with h'|h'
    ·exact hx h'
    ·exact hz (List.mem_singleton.1 h').symm
  ·rw [show decide (((i:Nat):Int)<((x10.l.length:Nat):Int))=false from decide_eq_false (by omega),cond_false];rw [List.take_of_length_le (by omega)] at hx;exact hk hx
end
theorem varsAdd_eq {d:TDoc}{q:Z6}{op:Int}(hwd:d.wf) (hwq:q.wf) (hd:d.sz<=1048576) (hq:q.sz<=1048576):Z22 d q op=some true:=by
 unfold Z22;obtain⟨b,hb⟩:=fits16_ok hd hq;rw [hb,Option.bind_some];rw [Z24_eq] at hb;by_cases hr:b=true/\0<=op/\op<q.FOps.l.length
 ·obtain⟨rfl,h0,h1⟩:=hr;obtain⟨f1,f2⟩:=fits_facts hb;have hQ:=qv_of hq f1 f2;obtain⟨k,rfl⟩:∃k:Nat,op=k:=⟨op.toNat,by omega⟩;have hk:k<q.FOps.l.length:=by omega
  have ho:idxC q.FOps.l (k:Int)=some q.FOps.l[k]:=by unfold idxC; rw [if_pos (by omega),Int.toNat_natCast,List.getElem?_eq_getElem hk]
  have hok:q.FOps.l[k]?=some q.FOps.l[k]:=List.getElem?_eq_getElem hk;generalize q.FOps.l[k]=o at ho hok;rw [show decide ((k:Int)<(0:Int))=false from decide_eq_false (by omega),show decide (((q.FOps.l.length:Nat):Int)<=(k:Int))=false from decide_eq_false (by omega)];simp only [Bool.not_true,Bool.or_self,Bool.not_false,guardO,if_true,Bool.false_or];rw [ho,Option.bind_some];by_cases hv:o.FVars.l.length<16
  ·rw [show decide ((16:Int)<=((o.FVars.l.length:Nat):Int))=false from decide_eq_false (by omega),cond_false];obtain⟨u,w,sp,e1,e2,e3,e4⟩:=used_both hQ hok;obtain⟨r,g1,g2⟩:=U16.used_ref hQ hok;have g3:=g2 u e2;rw [Z99_eq,g1,Option.bind_some];have hmem:o∈q.FOps.l:=List.mem_of_getElem? hok;have hN:InsOk (1048575+1) d:=insOk_of hwd hd;have hS:=dsok_of hwd hd;have hvs:=vars_of hwq hq;refine ref_loop (fun hz=>?_) _ 0 (Nat.zero_le _) (by omega) (by simp)
   unfold Z22_j11;have hops:=hQ.ops;rw [appC_big (by decide) (by simp [Sl.nil]; omega),Option.bind_some];refine own_loop ho hv (fun own hown hno=>?_) F0 Sl.nil 0 (Nat.zero_le _) (by rw [F0_eq]; omega) (by simp [Sl.nil]) (by simp [Sl.nil]);unfold Z22_j17;rw [appC_big (by decide) (by rw [hown]; simp; omega),Option.bind_some];generalize hvv:(⟨_,own.l++[TVar.mk ([122,122]:Bs) (TRef.mk ([73,110,116]:Bs) (Sl.nil:Sl Int)) false Z7.zero]⟩:Sl TVar)=vv
   have hvl:vv.l=o.FVars.l++[TVar.mk ([122,122]:Bs) (TRef.mk ([73,110,116]:Bs) (Sl.nil:Sl Int)) false Z7.zero]:=by rw [<- hvv,<- hown]
   simp only [Sl.nil,List.nil_append];rw [ho,Option.bind_some];generalize hq':Z6.mk (Sl.setL _ (k:Int).toNat (TOp.mk o.FKind o.FName vv o.FSels)) _=q';have hfr:q'.FFrags.l=q.FFrags.l:=by rw [<- hq']
   have hol:q'.FOps.l=q.FOps.l.set k (TOp.mk o.FKind o.FName vv o.FSels):=by rw [<- hq']; simp [Sl.setL]
   obtain⟨s1,s2⟩:=idx_set (y:=TOp.mk o.FKind o.FName vv o.FSels) hok;have hv':∀x∈(TOp.mk o.FKind o.FName vv o.FSels).FVars.l,SOk x.FType.FWraps/\Wv (1048575+1) x.FDefault:=by
    intro x hx;have hx:x∈vv.l:=hx;rw [hvl] at hx;rcases List.mem_append.1 hx with hx|hx
    ·exact hvs o hmem x hx
    ·rw [List.mem_singleton.1 hx];exact⟨nilRef_ok,zvT_w.mono (by omega)⟩
   have hm:∀u',Z141_q q (k:Int)=some u'->DefsAs d o (TOp.mk o.FKind o.FName vv o.FSels) u' [Z1.mk 26 o.FName]:=by
    intro u' hu';rw [e2] at hu';cases hu';exact defsAs_one rfl hvl rfl rfl rfl hno (by rw [<- g3]; exact hz)
   have hlen0:(q.FOps.l.take k++o::q.FOps.l.drop (k+1)).length<=8:=by rw [<- s1]; exact hQ.ops
   obtain⟨c1,c1',j1,j2,hb0,p,t,j3,j4⟩:=ops_one (q':=q') (N:=1048575) (by omega) hN hS hQ hfr hvs (B:=q.FOps.l.drop (k+1)) (k:=k) (o:=o) (o':=TOp.mk o.FKind o.FName vv o.FSels) rfl rfl rfl hv' (by show vv.l.length<=_; rw [hvl]; simp) hm (q.FOps.l.take k) 0 (Z8.mk d (Sl.nil:Sl TVar) (Sl.nil:Sl Z1)) (Z8.mk d (Sl.nil:Sl TVar) (Sl.nil:Sl Z1))
    (by simp; omega) (by rw [List.drop_zero]; exact s1) (by rw [List.drop_zero,hol]; exact s2) rfl rfl rfl (by show 0+_<=_; omega)
   rw [<- s1] at j1;rw [<- s2,<- hol] at j2;have k1:Z139 d q=some c1.Fout:=by rw [Z139_eq]; unfold Z139_q; rw [j1]; rfl
   have k2:Z139 d q'=some c1'.Fout:=by rw [Z139_eq]; unfold Z139_q; rw [j2]; rfl
   rw [k1,Option.bind_some,k2,Option.bind_some];have hb1:c1.Fout.l.length<=900000000:=by
    have h0:c1.Fout.l.length<=0+20000000*(q.FOps.l.take k++o::q.FOps.l.drop (k+1)).length:=hb0;omega
   have hle:c1'.Fout.l.length=c1.Fout.l.length+1:=by rw [j3,j4]; simp; omega
   rw [addC_nat (by omega),hid_eq,Option.bind_some,hle,decide_eq_true rfl,Bool.not_true,cond_false];exact cmp_ok ho j3 j4 hb1 F0 0 (Nat.zero_le _) (by rw [F0_eq]; omega) fun j h=>by omega
  ·rw [show decide ((16:Int)<=((o.FVars.l.length:Nat):Int))=true from decide_eq_true (by omega),cond_true,hid_ex]; rfl
 ·have hc:((!b||decide (op<(0:Int)))||decide (((q.FOps.l.length:Nat):Int)<=op))=true:=by
   cases b
   ·rfl
   ·simp only [Bool.not_true,Bool.false_or,Bool.or_eq_true,decide_eq_true_eq];by_cases h0:op<0
    ·exact .inl h0
    ·exact .inr (by
      have:¬op<q.FOps.l.length:=fun h=>hr ⟨rfl,by omega,h⟩;omega)
  rw [hc];simp only [guardO,Bool.not_true,Bool.false_eq_true,if_false,Bool.true_or,cond_true];rw [hid_ex]; rfl
end Go.Proofs

namespace Go.Proofs.YtimiconoebjfbaaGreatDoor
open Go Go.Ab Go.RowKit Go.ChangeShapes Go.WideShapes Go.ChangeAt
variable {lou:Lou}
theorem bulkAll {H:Type}(l:List (DataW H)):Rows.uptoBulkAll l=(l.map Rows.uptoBulk).sum:=by
 induction l with
 | nil=>rfl
 | cons x r ih=>simp only [Rows.uptoBulkAll,List.map_cons,List.sum_cons,ih]
theorem bulkB {H:Type}:Bulk (H:=H) Rows.uptoBulk:=by
 refine⟨fun d=>?_,fun b=>by simp [Rows.uptoBulk],fun e s=>by simp only [Rows.uptoBulk,bulkAll]; omega,fun l=>by simp only [Rows.uptoBulk,bulkAll]; omega⟩;cases d with
 | lit l=>cases l<;>simp [Rows.uptoBulk]
 | nil=>simp [Rows.uptoBulk]
 | ptr d=>simp [Rows.uptoBulk]
 | slice elems spare=>simp [Rows.uptoBulk]
 | agg parts=>simp [Rows.uptoBulk]
 | iface t d=>simp [Rows.uptoBulk]
 | map entries=>simp [Rows.uptoBulk]
 | held h=>simp [Rows.uptoBulk]
theorem own:ownKnob Tryz.prog.godebug=none:=by kernel_rfl
theorem laid:laidOutB Tryz.prog=true:=by kernel_rfl
theorem bound {H:Type}{l:List (DataW H)}(hk:Rows.uptoSmall H l=true):Rows.uptoBulkAll l<=1048576:=of_decide_eq_true hk
theorem table {W:World}(h:laidMet Tryz.prog Rows.varsAddUptoRow.laid W):∃u fr,W.heap[0]?=some (.cells (Lib.pow10Tab.map fun z=>Value.int .u64 z).toArray u fr) :=
 tab_of (P:=Tryz.prog) (name := "internal/strconv.uint64pow10") (g:=0) (t:=188) (e:=180) (n:=20) (by kernel_rfl) (by kernel_rfl) (by kernel_rfl) (by kernel_rfl) (by kernel_rfl) (by kernel_rfl) h
  (by rw [show (Lib.tabData .u64 Lib.pow10Tab:DataW Unit)=Rows.laid_internal_strconv_uint64pow10 from(by kernel_rfl)]; exact .tail _ (.tail _ (.head _)))
theorem isTab (u:TypeId) (fr:Nat×Nat):IsTab Tryz.prog (.fix 0 (.cells (Lib.pow10Tab.map fun z=>Value.int .u64 z).toArray u fr)):=.of (by kernel_rfl)
theorem varsAdd_call (d:TDoc) (q:Z6) (op:Int) (hwd:d.wf) (hwq:q.wf) (hd:d.sz<=1048576) (hq:q.sz<=1048576) (u:TypeId) (fr:Nat×Nat):ACalls Tryz.prog 4 [.agg d.c,.agg q.c,.d (.int .i64 op)] (hTab 0 (.cells (Lib.pow10Tab.map fun z=>Value.int .u64 z).toArray u fr)) fun r h'=>r=.a (.d (.bool true))/\h'=hTab 0 (.cells (Lib.pow10Tab.map fun z=>Value.int .u64 z).toArray u fr) :=
 Z22_walk (varsAdd_eq hwd hwq hd hq) _ (gT:=0) rfl (isTab u fr)
end Go.Proofs.YtimiconoebjfbaaGreatDoor

