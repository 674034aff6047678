import Derived.Test.YtimiconoebjfbaaGreatDoorV15
import Derived.Test.YtimiconoebjfbaaGreatDoorRows
set_option maxRecDepth 100000
set_option maxHeartbeats 2000000
set_option linter.unusedVariables false
set_option linter.unusedSimpArgs false
namespace Go.Proofs
open Go Go.Ab
theorem addC_nat {i:Nat}(h:i<=549755813888):addC (i:Int) 1=some ((i+1:Nat):Int):=by
 rw [addC_ok ⟨by omega,by omega⟩];rfl
theorem used_step (x:Sl Bs×List Bs) (hx:x.1.l.length<=549755813888) (n i:Nat) (acc:Sl Bs) (hlt:i<x.1.l.length) (ha:acc.l=dd (x.1.l.take i)) :
  ∃acc':Sl Bs,Z128_l15 x (n+1) acc (i:Int)=Z128_l15 x n acc' ((i+1:Nat):Int)/\acc'.l=dd (x.1.l.take (i+1)):=by
 rw [Z128_l15];have hg:=List.getElem?_eq_getElem hlt;rw [show decide ((i:Int)<(x.1.l.length:Int))=true from decide_eq_true (by omega),cond_true];have hidx:idxC x.1.l (i:Int)=some x.1.l[i]:=by unfold idxC; rw [if_pos (by simp),Int.toNat_natCast,hg]
 have hadd:addC (i:Int) 1=some ((i+1:Nat):Int):=addC_nat (by omega);have ht:x.1.l.take (i+1)=x.1.l.take i++[x.1.l[i]]:=by rw [List.take_add_one,hg]; rfl
 have hlen:acc.l.length<=x.1.l.length:=by rw [ha]; exact Nat.le_trans (dd_len _) (by simp; omega)
 rw [hidx,Option.bind_some,Z103_eq,contains_eq,Option.bind_some];unfold Z128_j21;cases hc:acc.l.contains x.1.l[i]
 ·rw [Bool.not_false,cond_true,appC_ok (by decide) (by simp only [List.length_singleton]; omega),Option.bind_some,hadd,Option.bind_some];exact⟨_,rfl,by rw [ht,dd_snoc,<- ha,addU,hc]; rfl⟩
 ·rw [Bool.not_true,cond_false,hadd,Option.bind_some];exact⟨_,rfl,by rw [ht,dd_snoc,<- ha,addU,hc]; rfl⟩
theorem used_loop (x:Sl Bs×List Bs) (hx:x.1.l.length<=549755813888):∀(n i:Nat) (acc:Sl Bs),i<=x.1.l.length->x.1.l.length<i+n->acc.l=dd (x.1.l.take i)->∃nl,Z128_l15 x n acc (i:Int)=some ⟨nl,dd x.1.l⟩:=by
 intro n;induction n with
 | zero=>intro i _ h h2; omega
 | succ n ih =>
  intro i acc hi hn ha;by_cases hlt:i<x.1.l.length
  ·obtain⟨acc',e,h⟩:=used_step x hx n i acc hlt ha;rw [e];exact ih (i+1) acc' (by omega) (by omega) h
  ·refine⟨acc.nl, ?_⟩;rw [Z128_l15,show decide ((i:Int)<(x.1.l.length:Int))=false from decide_eq_false (by omega),cond_false];rw [List.take_of_length_le (by omega)] at ha;unfold Z128_j7;rw [<- ha]
structure QV (q:TQuery):Prop where
 frags:q.FFrags.l.length<=12
 ops:q.FOps.l.length<=8
 fsz:∀f∈q.FFrags.l,f.sz<=1048576
 osz:∀f∈q.FOps.l,f.sz<=1048576
 fna:∀f∈q.FFrags.l,∀x∈f.FSels.l,NArg x
 ona:∀f∈q.FOps.l,∀x∈f.FSels.l,NArg x
theorem QV.okV {q:TQuery}(h:QV q):QOkV q:=⟨by have:=h.frags; omega,fun f hf=>by have:=h.fsz f hf; have:=@frag_sels f; omega⟩
theorem used_told {q:TQuery}(hq:QV q){i:Nat}{o:TOp}(ho:q.FOps.l[i]?=some o):∃(u w:Sl Bs) (sp:List Bs),Z137_qn F0 q o.FSels [] Sl.nil=some (w,sp)/\Z128_q q (i:Int)=some u/\u.l=dd w.l /\
  ∀P,GW q o.FSels.l sp P->∀x∈u.l,P x:=by
 have hlt:i<q.FOps.l.length:=(List.getElem?_eq_some_iff.1 ho).1;have hmem:o∈q.FOps.l:=List.mem_of_getElem? ho;have hs:=hq.osz o hmem;have hs2:=@op_sels o;have hu:=unseen_all q.FFrags [];have h1:=hq.frags;have hw:wgt q.FFrags 1048576 []<=12*(1048576+1):=Nat.mul_le_mul_right _ (by omega);obtain⟨w,sp,e1,h3,h4,h5⟩:=walk_all (T:=1048576) (Nat.le_refl _) (fun f hf=>by have:=hq.fsz f hf; have:=@frag_sels f; omega) hq.fna F0 o.FSels Sl.nil [] (by rw [F0_eq]; omega) (by omega) (hq.ona o hmem) (by simp only [Sl.nil,List.length_nil]; unfold bigL; omega)
 simp only [Sl.nil,List.length_nil] at h4;have hlen:w.l.length<=549755813888:=by omega
 obtain⟨nl,h6⟩:=used_loop (w,sp) hlen F0 0 Sl.nil (Nat.zero_le _) (by rw [F0_eq]; simp only; omega) rfl;refine⟨⟨nl,dd w.l⟩,w,sp,e1, ?_,rfl,fun P hP x hx=>?_⟩
 ·unfold Z128_q Z128;rw [show decide ((i:Int)<(0:Int))=false from decide_eq_false (by omega),show decide (((q.FOps.l.length:Nat):Int)<=(i:Int))=false from decide_eq_false (by omega),Bool.or_self,cond_false];have hidx:idxC q.FOps.l (i:Int)=some o:=by unfold idxC; rw [if_pos (by simp),Int.toNat_natCast,ho]
  rw [hidx,Option.bind_some,Z137_eq];unfold Z137_q;rw [e1,Option.bind_some];exact h6
 ·rcases h5 P hP x (dd_mem hx) with h|h
  ·cases h
  ·exact h
theorem take_next {α:Type}{l r:List α}{i:Nat}{x:α}(h:l.drop i=x::r):l.take (i+1)=l.take i++[x]/\l.drop (i+1)=r/\l[i]?=some x:=by
 have h1:l[i]?=some x:=by
  have:=congrArg (fun t=>t[0]?) h
  simpa using this
 refine⟨by rw [List.take_add_one,h1]; rfl, ?_,h1⟩;have:=congrArg (List.drop 1) h
 simpa [List.drop_drop] using this
theorem wvZero (n:Nat):Wv (n+1) (TValue.mk (6:Int) (0:Int) ([]:Bs) true ([]) (Sl.nil:Sl Bs)):=(zvT_w.kind 6).mono (by omega)
theorem defs_loop_vt {N:Nat}{d:TDoc}(hN2:N<=1073741000) (hD:InsOk (N+1) d) (a1:TOp) (a2:Sl Bs):∀(l:List TVar) (i:Nat) (c:Vars_checker),a1.FVars.l.drop i=l->(∀x∈l,SOk x.FType.FWraps/\Wv (N+1) x.FDefault)->c.Fd=d->c.Fout.l.length+5*l.length<=900000000 ->
  Vt (Z130_q4 a1 a2 l i c) c (5*l.length) ((∀x∈l,x.FName∈a2.l)/\(((a1.FVars.l.take i).map TVar.FName).Nodup->(a1.FVars.l.map TVar.FName).Nodup))
 | [],i,c,hl,_,_,_=>Vt.pure c _ ⟨(fun _ h=>by cases h),(fun h=>by
   have:a1.FVars.l.length<=i:=List.drop_eq_nil_iff.1 hl
   rwa [List.take_of_length_le this] at h)⟩
 | x::r,i,c,hl,hx,hd,hb=>by
  obtain⟨t1,t2,-⟩:=take_next hl;obtain⟨hx1,hx2⟩:=hx x (.head _);simp only [List.length_cons] at hb ⊢;rw [Z130_q4];simp only [Ab.on];rw [containsF_eq];generalize hany:List.any (a1.FVars.l.take i) (fun y0=>Z131_q y0 x)=tw;refine Vt.bind (m:=4+5*r.length) (Q:=x.FName∈a2.l/\(∀y∈r,y.FName∈a2.l)/\(((a1.FVars.l.take (i+1)).map TVar.FName).Nodup->(a1.FVars.l.map TVar.FName).Nodup)) (add_vt (by omega) tw 7 _) (by omega) (fun h1 h2=>?_) fun c1 q1=>?_
  ·obtain⟨h2,h3,h4⟩:=h2;refine⟨all_cons h2 h3,fun hn=>h4 ?_⟩;rw [t1,List.map_append,List.nodup_append];refine⟨hn,by simp,fun a ha b hb e=>?_⟩;obtain⟨z,hz,rfl⟩:=List.mem_map.1 ha;simp only [List.map_cons,List.map_nil,List.mem_singleton] at hb;rw [h1] at hany;have:=List.any_eq_false.1 hany z hz;exact this (by unfold Z131_q; rw [e,hb]; simp)
  have l1:=q1.hi;rw [q1.fd,hd];generalize ((Z92_q d x.FType.FName).2||bif !(Z92_q d x.FType.FName).2 then Z97_q x.FType.FName else false)=b1;generalize Z94_q d x.FType.FName=b2;refine Vt.bind (m:=3+5*r.length) (add_vt (by omega) _ 8 _) (by omega) (fun _ h=>h) fun c2 q2=>?_;have l2:=q2.hi;refine Vt.bind (m:=2+5*r.length) (add_vt (by omega) _ 10 _) (by omega) (fun _ h=>h) fun c3 q3=>?_;have l3:=q3.hi
  refine Vt.bind (k:=1) (P:=True) (m:=1+5*r.length) ?_ (by omega) (fun _ h=>h) fun c4 q4=>?_
  ·cases (x.FHas&&b2)
   ·exact Vt.pure c3 1 trivial
   ·obtain⟨w,e,hlit⟩:=literal_tot hN2 hD x.FType x.FDefault _ hx1 hx2 (wvZero N);rw [cond_true,show c3.Fd=d from by rw [q3.fd,q2.fd,q1.fd,hd],hlit,Option.bind_some];exact(add_vt (by omega) _ 23 _).map.mono (by omega) fun _=>trivial
  have l4:=q4.hi;rw [contains_eq];refine Vt.bind (m:=5*r.length) (add_vt (by omega) _ 26 _) (by omega) (fun h1 h2=>⟨by simpa using h1,h2⟩) fun c5 q5=>?_;have l5:=q5.hi;exact defs_loop_vt hN2 hD a1 a2 r (i+1) c5 t2 (fun y hy=>hx y (.tail _ hy)) (by rw [q5.fd,q4.fd,q3.fd,q2.fd,q1.fd,hd]) (by omega)
theorem defs_vt {N:Nat}{d:TDoc}(hN2:N<=1073741000) (hD:InsOk (N+1) d) (a1:TOp) (a2:Sl Bs) (c:Vars_checker) (hx:∀x∈a1.FVars.l,SOk x.FType.FWraps/\Wv (N+1) x.FDefault) (hd:c.Fd=d) (hb:c.Fout.l.length+5*a1.FVars.l.length<=900000000) :
  Vt (Z130_q c a1 a2) c (5*a1.FVars.l.length) ((∀x∈a1.FVars.l,x.FName∈a2.l)/\(a1.FVars.l.map TVar.FName).Nodup):=by
 unfold Z130_q;exact(defs_loop_vt hN2 hD a1 a2 a1.FVars.l 0 c rfl hx hd hb).map.mono (Nat.le_refl _) fun h=>⟨h.1,h.2 (by simp)⟩
theorem vfrags_vt {q:TQuery}(hq:QV q):∀(l:List Bs) (c:Vars_checker),VOk c->c.Fout.l.length+1048576*l.length<=900000000->Vt (Z126_q31 q l c) c (1048576*l.length) (∀n∈l,∀x∈(fndG q.FFrags.l n).1.FSels.l,GSel (·∈vnames c) x)
 | [],c,_,_=>Vt.pure c _ fun _ h=>by cases h
 | n::r,c,hc,hb=>by
  simp only [List.length_cons] at hb ⊢;rw [Z126_q31];simp only [Ab.on,ffind_eq];have hz:(fndG q.FFrags.l n).1.sz<=1048576:=by
   cases h:(fndG q.FFrags.l n).2
   ·rw [fndG_none h]; decide
   ·exact hq.fsz _ (fndG_name h).2
  have hs:=@frag_sels (fndG q.FFrags.l n).1;refine Vt.bind (k:=1048576) (m:=1048576*r.length) (Q:=∀n∈r,∀x∈(fndG q.FFrags.l n).1.FSels.l,GSel (·∈vnames c) x) ((sels_vt c _ _ _ (by omega) hc (by omega) (by omega)).mono (by omega) id) (by omega) (fun a b=>all_cons a b) fun c' hq'=>?_;have:=hq'.hi;have h:=vfrags_vt hq r c' (hq'.ok hc) (by omega);rw [hq'.names] at h;exact h
theorem reach_told {q:TQuery}(hV:QOkV q) (h1:q.FFrags.l.length<=12) (l:Sl TSel) (hl:(l.l.map TSel.sz).sum<=1048576):∃s b,Z88_qn F0 q l Sl.nil=some (s,b)/\s.l.length<=12/\∃b',Z10_q q l=some (s,b'):=by
 have hu:=unseen_all q.FFrags [];have hm:unseen q.FFrags []*(1048576+1)<=12*(1048576+1):=Nat.mul_le_mul_right _ (by omega);obtain⟨s,b,e,_,h2⟩:=visit_tot hV.2 F0 l Sl.nil (by rw [F0_eq]; simp only [Sl.nil]; omega) hl (by simp only [Sl.nil,List.length_nil]; omega);simp only [Sl.nil,List.length_nil] at h2;refine⟨s,b,e,by omega, ?_⟩;have loop:∀(t:List Bs) (b:Bool),∃b',Z10_q10 q t b=some b':=by
  intro t;induction t with
  | nil=>intro b; exact⟨b,rfl⟩
  | cons a r ih =>
   intro b;rw [Z10_q10];simp only [Ab.on,ffind_eq];obtain⟨v,-,hv⟩:=circ_tot hV (fndG q.FFrags.l a).1 (fndG_sum hV a);cases b
   ·exact ih _
   ·simp only [guardO,if_true];rw [hv,Option.bind_some];exact ih _
 obtain⟨b',hb'⟩:=loop s.l b;refine⟨b', ?_⟩;unfold Z10_q Z12_q;rw [walk_eq,e,Option.bind_some,hb'];rfl
def OpOk (q:TQuery) (i:Nat) (o:TOp):Prop:=∃u,Z128_q q (i:Int)=some u/\u.l.Nodup/\(∀x∈u.l,x∈o.FVars.l.map TVar.FName)/\(∀x∈o.FVars.l,x.FName∈u.l)/\(o.FVars.l.map TVar.FName).Nodup
theorem check_ops {N:Nat}{d:TDoc}(hN2:N<=1073741000) (hD:InsOk (N+1) d) (hS:DSok d){q:TQuery}(hq:QV q) (hv:∀o∈q.FOps.l,∀x∈o.FVars.l,SOk x.FType.FWraps/\Wv (N+1) x.FDefault):∀(l:List TOp) (i:Nat) (c:Vars_checker),q.FOps.l.drop i=l->c.Fd=d->c.Fout.l.length+20000000*l.length<=800000000 ->
  ∃c',Z126_q10 q l i c=some c'/\c.Fout.l.length<=c'.Fout.l.length/\(c'.Fout.l.length=c.Fout.l.length->∀k o,l[k]?=some o->OpOk q (i+k) o)
 | [],i,c,_,_,_=>⟨c,rfl,Nat.le_refl _,fun _ k o h=>by simp at h⟩
 | o::r,i,c,hl,hd,hb=>by
  obtain⟨t1,t2,t3⟩:=take_next hl;have hmem:o∈q.FOps.l:=List.mem_of_getElem? t3;have hz:=hq.osz o hmem;have hsl:=@op_sels o;have hvl:o.FVars.l.length<=1048576:=by
   have h1:=o.sz_def;have h2:=Sl.len_lt (f:=TVar.sz) o.FVars TVar.pos;omega
  simp only [List.length_cons] at hb;obtain⟨u,w,sp,e1,e2,e3,e4⟩:=used_told hq t3;obtain⟨s,b,r1,r2,b',r3⟩:=reach_told hq.okV hq.frags o.FSels (by omega);rw [Z126_q10];simp only [Ab.on];rw [e2,Option.bind_some];obtain⟨c1,f1,q1⟩:=defs_vt hN2 hD o u (Vars_checker.mk c.Fd o.FVars c.Fout) (hv o hmem) hd (by show c.Fout.l.length+_<=_; omega);have hv1:VOk c1:=by
   have:VOk (Vars_checker.mk c.Fd o.FVars c.Fout):=⟨by show DSok c.Fd; rw [hd]; exact hS,fun x hx=>(hv o hmem x hx).1⟩;exact q1.ok this
  have n1:vnames c1=o.FVars.l.map TVar.FName:=q1.names;have l1:c1.Fout.l.length<=c.Fout.l.length+5*o.FVars.l.length:=q1.hi;have k1:c.Fout.l.length<=c1.Fout.l.length:=q1.lo;rw [f1,Option.bind_some];obtain⟨c2,f2,q2⟩:=sels_vt c1 o.FSels (Z96_q o.FKind) o.FName (by omega) hv1 (by omega) (by omega);rw [f2,Option.bind_some,r3,Option.bind_some];have l2:=q2.hi;have k2:=q2.lo;obtain⟨c3,f3,q3⟩:=vfrags_vt hq s.l c2 (q2.ok hv1) (by omega)
  have l3:=q3.hi;have k3:=q3.lo;simp only;rw [f3,Option.bind_some];obtain⟨c4,f4,k4,g4⟩:=check_ops hN2 hD hS hq hv r (i+1) c3 t2 (by rw [q3.fd,q2.fd,q1.fd]; exact hd) (by omega);refine⟨c4,f4,by omega,fun he k o' ho'=>?_⟩;cases k with
  | succ k =>
   have:=g4 (by omega) k o' (by simpa using ho')
   rwa [show i+1+k=i+(k+1) by omega] at this
  | zero =>
   obtain rfl:o=o':=by simpa using ho'
   have s1:=q1.say (by show c1.Fout.l.length=c.Fout.l.length; omega);have s2:=q2.say (by omega);have s3:=q3.say (by omega);rw [q2.names] at s3;rw [n1] at s2 s3;refine⟨u,e2,by rw [e3]; exact dd_nodup _,fun x hx=>?_,s1.1,s1.2⟩;refine e4 (·∈o.FVars.l.map TVar.FName) ⟨s2,fun nm hnm=>s3 nm ?_⟩ x hx;exact(walk_par q F0 o.FSels Sl.nil [] Sl.nil w sp s b (fun x=>by simp [Sl.nil]) e1 r1 nm).2 hnm
theorem check_told {N:Nat}{d:TDoc}(hN2:N<=1073741000) (hD:InsOk (N+1) d) (hS:DSok d){q:TQuery}(hq:QV q) (hv:∀o∈q.FOps.l,∀x∈o.FVars.l,SOk x.FType.FWraps/\Wv (N+1) x.FDefault) :
  ∃l,Z126_q d q=some l/\(l.l.length=0->∀k o,q.FOps.l[k]?=some o->OpOk q k o):=by
 have:=hq.ops;obtain⟨c,h1,h2,h3⟩:=check_ops hN2 hD hS hq hv q.FOps.l 0 (Vars_checker.mk d (Sl.nil:Sl TVar) (Sl.nil:Sl TFault)) rfl rfl (by show 0+_<=_; omega);unfold Z126_q;rw [h1];exact⟨c.Fout,rfl,fun he k o ho=>by have:=h3 he k o ho; simpa using this⟩
end Go.Proofs

namespace Go.Proofs
open Go Go.Ab
set_option maxRecDepth 100000 in
theorem example16:Z14=some true:=by kernel_rfl
end Go.Proofs

namespace Go.Proofs
open Go Go.Ab
theorem sokW {t:TRef}(hw:t.wf) (hs:t.sz<=1048576):SOk t.FWraps:=⟨hw.2.1.1,by have:=TRef.wraps_le t; omega⟩
theorem docDef {d:TDoc}{t:TDef}(h:t∈d.FDefs.l):t.sz<=d.sz:=by
 have h1:=d.sz_def;have h2:=Sl.mem_le (f:=TDef.sz) h;omega
theorem dsok_of {d:TDoc}(hw:d.wf) (hs:d.sz<=1048576):DSok d:=by
 intro t ht;have h0:=docDef ht;have hwt:=(TDoc.FDefs_wf hw).2.2 t ht;have h1:=t.sz_def;refine⟨fun i hi=>?_,fun f hf i hi=>?_⟩
 ·have h2:=Sl.mem_le (f:=TInput.sz) hi;have h3:=i.sz_def;exact sokW (TInput.FType_wf ((TDef.FInputs_wf hwt).2.2 i hi)) (by omega)
 ·have h2:=Sl.mem_le (f:=TField.sz) hf;have h3:=f.sz_def;have h4:=Sl.mem_le (f:=TInput.sz) hi;have h5:=i.sz_def;exact sokW (TInput.FType_wf ((TField.FArgs_wf ((TDef.FFields_wf hwt).2.2 f hf)).2.2 i hi)) (by omega)
theorem insOk_of {d:TDoc}(hw:d.wf) (hs:d.sz<=1048576):InsOk (1048575+1) d:=by
 intro nm;rcases findD_mem d nm with ⟨e,-⟩|ht
 ·rw [e]; exact⟨fun _ h=>(by cases h),by show 0<=_; omega⟩
 ·generalize (Z92_q d nm).1=t at ht;have h0:=docDef ht;have hwt:=(TDoc.FDefs_wf hw).2.2 t ht;have h1:=t.sz_def;have hl:=Sl.len_le (f:=TInput.sz) t.FInputs (fun x=>TInput.pos x);refine⟨fun i hi=>?_,by omega⟩;have h2:=Sl.mem_le (f:=TInput.sz) hi;have h3:=i.sz_def;have hwi:=(TDef.FInputs_wf hwt).2.2 i hi;exact⟨sokW (TInput.FType_wf hwi) (by omega),Wv.of _ _ (by omega) (by omega) (TInput.FDefault_wf hwi)⟩
theorem vars_of {q:TQuery}(hw:q.wf) (hs:q.sz<=1048576):∀o∈q.FOps.l,∀x∈o.FVars.l,SOk x.FType.FWraps/\Wv (1048575+1) x.FDefault:=by
 intro o ho x hx;have h0:=q.sz_def;have h1:=Sl.mem_le (f:=TOp.sz) ho;have h2:=o.sz_def;have h3:=Sl.mem_le (f:=TVar.sz) hx;have h4:=x.sz_def;have hwo:=(TQuery.FOps_wf hw).2.2 o ho;have hwx:=(TOp.FVars_wf hwo).2.2 x hx;exact⟨sokW (TVar.FType_wf hwx) (by omega),Wv.of _ _ (by omega) (by omega) (TVar.FDefault_wf hwx)⟩
theorem sels_narg:∀n,(∀(l:Sl TSel) (a:Int),r08_selsRight_qn n l a=some true->∀x∈l.l,NArg x)/\(∀(s:TSel) (a:Int),Z38_qn n s a=some true->NArg s)
 | 0=>⟨fun _ _ h=>(by cases h),fun _ _ h=>(by cases h)⟩
 | n+1=>by
  obtain⟨i1,i2⟩:=sels_narg n;refine⟨fun l a h=>?_,fun s a h=>?_⟩
  ·rw [r08_selsRight_qn] at h;cases hc:(((decide (((l.l.length:Nat):Int)=(0:Int)))||(decide ((64:Int)<((l.l.length:Nat):Int))))||(decide ((24:Int)<a)))
   ·rw [hc,cond_false] at h;obtain⟨o,h1,h2⟩:=Option.bind_eq_some_iff.1 h;have ho:o=Sum.inl ():=by
     have loop:∀(t:List TSel) (o:Unit ⊕ Bool),r08_selsRight_q10 a (Z38_qn n) t=some o->o=Sum.inl ()\/o=Sum.inr false:=by
      intro t;induction t with
      | nil=>intro o h; cases h; exact .inl rfl
      | cons x r ih =>
       intro o h;rw [r08_selsRight_q10] at h;simp only [Ab.on] at h;obtain⟨b,-,h⟩:=Option.bind_eq_some_iff.1 h;cases b
       ·cases h; exact .inr rfl
       ·exact ih o h
     rcases loop _ _ h1 with h|h
     ·exact h
     ·rw [h] at h2; cases h2
    subst ho;have loop:∀t:List TSel,r08_selsRight_q10 a (Z38_qn n) t=some (Sum.inl ())->∀x∈t,NArg x:=by
     intro t;induction t with
     | nil=>intro _ x hx; cases hx
     | cons x r ih =>
      intro h y hy;rw [r08_selsRight_q10] at h;simp only [Ab.on] at h;obtain⟨b,hb,h⟩:=Option.bind_eq_some_iff.1 h;cases b
      ·cases h
      ·rcases List.mem_cons.1 hy with rfl|hy
       ·exact i2 _ _ hb
       ·exact ih h y hy
    exact loop _ h1
   ·rw [hc] at h; cases h
  ·rw [Z38_qn] at h;obtain⟨x4,-,h⟩:=Option.bind_eq_some_iff.1 h;cases x4
   ·simp [guardO] at h
   ·simp only [guardO,Bool.not_true,Bool.not_false,if_true] at h;obtain⟨x5,-,h⟩:=Option.bind_eq_some_iff.1 h;cases x5
    ·simp at h
    ·simp only [Bool.not_true,Bool.or_self,cond_false] at h;by_cases h1:s.FKind=1
     ·rw [decide_eq_true h1,cond_true] at h;simp only [Ab.on] at h;refine⟨s,fun e=>by omega, ?_⟩;by_cases hz:s.FSels.l=[]
      ·rw [hz]; intro _ hx; cases hx
      ·have hl:decide (((s.FSels.l.length:Nat):Int)=(0:Int))=false:=decide_eq_false fun e=>hz (List.length_eq_zero_iff.1 (by omega));rw [hl] at h;generalize ((Z16_q s.FName&&(s.FAlias==([]:Bs)||bif Z16_q s.FName&&!(s.FAlias==([]:Bs)) then Z16_q s.FAlias else false))&&s.FOn==([]:Bs))=g at h;cases g
       ·simp at h
       ·simp only [Bool.not_false,Bool.and_self,if_true] at h;obtain⟨a2,-,h⟩:=Option.bind_eq_some_iff.1 h;obtain⟨b,hb,h⟩:=Option.bind_eq_some_iff.1 h;have:b=true:=by simpa using h
        subst this;exact i1 _ _ hb
     ·rw [decide_eq_false h1,cond_false] at h;by_cases h2:s.FKind=2
      ·rw [decide_eq_true h2,cond_true] at h;simp only [Ab.on,Option.some.injEq,Bool.and_eq_true,decide_eq_true_eq] at h;have ha:s.FArgs.l=[]:=List.length_eq_zero_iff.1 (by omega);have hs:s.FSels.l=[]:=List.length_eq_zero_iff.1 (by omega);exact⟨s,fun _=>ha,by rw [hs]; intro _ hx; cases hx⟩
      ·rw [decide_eq_false h2,cond_false] at h;by_cases h3:s.FKind=3
       ·rw [decide_eq_true h3,cond_true] at h;simp only [Ab.on] at h;generalize ((s.FName==([]:Bs)&&s.FAlias==([]:Bs))&&(s.FOn==([]:Bs)||bif (s.FName==([]:Bs)&&s.FAlias==([]:Bs))&&!(s.FOn==([]:Bs)) then Z16_q s.FOn else false))=g at h;cases g
        ·simp at h
        ·by_cases hz:s.FArgs.l=[]
         ·rw [hz] at h;simp only [List.length_nil,decide_true,Bool.and_self,if_true,Int.natCast_zero] at h;obtain⟨a2,-,h⟩:=Option.bind_eq_some_iff.1 h;obtain⟨b,hb,h⟩:=Option.bind_eq_some_iff.1 h;have:b=true:=by simpa using h
          subst this;exact⟨s,fun _=>hz,i1 _ _ hb⟩
         ·have hl:decide (((s.FArgs.l.length:Nat):Int)=(0:Int))=false:=decide_eq_false fun e=>hz (List.length_eq_zero_iff.1 (by omega));rw [hl] at h;simp at h
       ·rw [decide_eq_false h3] at h;cases h
theorem fits_facts {d:TDoc}{q:TQuery}(h:Z15_q d q=some true):Z78_q q=some false/\Z34_q q=some true:=by
 unfold Z15_q at h;obtain⟨x3,e3,h⟩:=Option.bind_eq_some_iff.1 h;cases x3
 ·simp only [guardO,Bool.not_false,if_true] at h;obtain⟨x4,e4,h⟩:=Option.bind_eq_some_iff.1 h;cases x4
  ·simp only [Bool.not_false,Bool.and_self,if_true] at h;obtain⟨x5,e5,h⟩:=Option.bind_eq_some_iff.1 h;cases x5
   ·simp at h
   ·exact⟨e4,e5⟩
  ·simp at h
 ·simp [guardO] at h
theorem right_ops:∀l:List TOp,Z34_q30 l=some (Sum.inl ())->∀x∈l,r08_selsRight_q x.FSels 1=some true
 | [],_,_,h=>by cases h
 | a::r,h,x,hx=>by
  rw [Z34_q30] at h;simp only [Ab.on] at h;generalize ((decide (a.FKind<(1:Int))||decide ((3:Int)<a.FKind))||(!(a.FName==([]:Bs))&&!(bif (!(decide (a.FKind<(1:Int))||decide ((3:Int)<a.FKind))&&!(a.FName==([]:Bs))) then Z16_q a.FName else false)))=g at h;cases g
  ·simp only [guardO,Bool.not_false,if_true] at h;obtain⟨x1,-,h⟩:=Option.bind_eq_some_iff.1 h;cases x1
   ·simp at h
   ·simp only [Bool.not_true,Bool.or_self,Bool.not_false,if_true] at h;obtain⟨x2,e2,h⟩:=Option.bind_eq_some_iff.1 h;cases x2
    ·simp at h
    ·rcases List.mem_cons.1 hx with rfl|hx
     ·exact e2
     ·exact right_ops r h x hx
  ·simp [guardO] at h
theorem right_frags:∀l:List TFrag,Z34_q14 l=some (Sum.inl ())->∀x∈l,r08_selsRight_q x.FSels 1=some true
 | [],_,_,h=>by cases h
 | a::r,h,x,hx=>by
  rw [Z34_q14] at h;simp only [Ab.on] at h;generalize (!(Z39_q a.FName)||!(bif !(!(Z39_q a.FName)) then Z16_q a.FOn else false))=g at h;cases g
  ·simp only [guardO,Bool.not_false,if_true] at h;obtain⟨x2,e2,h⟩:=Option.bind_eq_some_iff.1 h;cases x2
   ·simp at h
   ·rcases List.mem_cons.1 hx with rfl|hx
    ·exact e2
    ·exact right_frags r h x hx
  ·simp [guardO] at h
theorem qv_of {q:TQuery}(hs:q.sz<=1048576) (h1:Z78_q q=some false) (h2:Z34_q q=some true):QV q:=by
 obtain⟨-,a1,a2,-⟩:=QOkV.of hs;have hl:q.FOps.l.length<=8/\q.FFrags.l.length<=12:=by
  unfold Z78_q at h1;cases hc:(decide ((8:Int)<((q.FOps.l.length:Nat):Int))||decide ((12:Int)<((q.FFrags.l.length:Nat):Int)))
  ·simp only [Bool.or_eq_false_iff,decide_eq_false_iff_not] at hc;omega
  ·rw [hc] at h1; cases h1
 unfold Z34_q at h2;obtain⟨n,-,h2⟩:=Option.bind_eq_some_iff.1 h2;cases hc:((decide (n<(1:Int)))||(decide ((64:Int)<n)))
 ·rw [hc,cond_false] at h2;obtain⟨o,e1,h2⟩:=Option.bind_eq_some_iff.1 h2;have hor:∀(l:List TOp) (o:Unit ⊕ Bool),Z34_q30 l=some o->o=Sum.inl ()\/o=Sum.inr false:=by
   intro l;induction l with
   | nil=>intro o h; cases h; exact .inl rfl
   | cons a r ih =>
    intro o h;rw [Z34_q30] at h;simp only [Ab.on] at h;generalize ((decide (a.FKind<(1:Int))||decide ((3:Int)<a.FKind))||(!(a.FName==([]:Bs))&&!(bif (!(decide (a.FKind<(1:Int))||decide ((3:Int)<a.FKind))&&!(a.FName==([]:Bs))) then Z16_q a.FName else false)))=g at h;cases g
    ·simp only [guardO,Bool.not_false,if_true] at h;obtain⟨x1,-,h⟩:=Option.bind_eq_some_iff.1 h;cases x1
     ·simp at h; exact .inr h.symm
     ·simp only [Bool.not_true,Bool.or_self,Bool.not_false,if_true] at h;obtain⟨x2,e2,h⟩:=Option.bind_eq_some_iff.1 h;cases x2
      ·simp at h; exact .inr h.symm
      ·exact ih o h
    ·simp [guardO] at h; exact .inr h.symm
  have hof:∀(l:List TFrag) (o:Unit ⊕ Bool),Z34_q14 l=some o->o=Sum.inl ()\/o=Sum.inr false:=by
   intro l;induction l with
   | nil=>intro o h; cases h; exact .inl rfl
   | cons a r ih =>
    intro o h;rw [Z34_q14] at h;simp only [Ab.on] at h;generalize (!(Z39_q a.FName)||!(bif !(!(Z39_q a.FName)) then Z16_q a.FOn else false))=g at h;cases g
    ·simp only [guardO,Bool.not_false,if_true] at h;obtain⟨x2,e2,h⟩:=Option.bind_eq_some_iff.1 h;cases x2
     ·simp at h; exact .inr h.symm
     ·exact ih o h
    ·simp [guardO] at h; exact .inr h.symm
  rcases hor _ _ e1 with rfl|rfl
  ·simp only [Ab.on] at h2;obtain⟨o2,e2,h2⟩:=Option.bind_eq_some_iff.1 h2;rcases hof _ _ e2 with rfl|rfl
   ·exact⟨hl.2,hl.1,a2,a1,fun f hf=>(sels_narg F0).1 _ _ (right_frags _ e2 f hf),fun f hf=>(sels_narg F0).1 _ _ (right_ops _ e1 f hf)⟩
   ·cases h2
  ·cases h2
 ·rw [hc] at h2; cases h2
end Go.Proofs

namespace Go.Proofs
open Go Go.Ab
/-! VarsClean. -/
theorem nodup_len:∀(a b:List Bs),a.Nodup->(∀x∈a,x∈b)->a.length<=b.length
 | [],_,_,_=>by simp
 | x::r,b,hn,h=>by
  have hx:=h x (.head _);have hr:=List.nodup_cons.1 hn;have h1:=nodup_len r (b.erase x) hr.2 fun y hy=>(List.mem_erase_of_ne (fun e:y=x=>hr.1 (by rw [<- e]; exact hy))).2 (h y (.tail _ hy));have h2:=List.length_erase_of_mem hx;have h3:=List.length_pos_of_mem hx;simp only [List.length_cons]; omega
theorem count_loop (o:TOp) (s:Bs):∀(l:List TVar) (n:Int),0<=n->n+l.length<=1099511627776->Z13_q44 o s l n=some (n+((l.filter fun x=>x.FName==s).length:Nat))
 | [],n,_,_=>by rw [Z13_q44]; simp
 | x::r,n,h0,hb=>by
  simp only [List.length_cons] at hb;rw [Z13_q44];simp only [Ab.on];rw [List.filter_cons];cases hx:x.FName==s
  ·rw [cond_false,Option.bind_some,count_loop o s r n h0 (by omega)];rfl
  rw [cond_true,addC_ok (by omega),Option.bind_some,Option.bind_some,count_loop o s r (n+1) (by omega) (by omega)];simp only [if_true,List.length_cons]
  congr 1; omega
theorem once {s:Bs}:∀l:List TVar,(l.map TVar.FName).Nodup->s∈l.map TVar.FName->(l.filter fun x=>x.FName==s).length=1
 | [],_,h=>by cases h
 | x::r,hn,h=>by
  rw [List.map_cons,List.nodup_cons] at hn;rw [List.filter_cons];cases hx:x.FName==s
  ·have hne:¬x.FName=s:=by simpa using hx
   rw [List.map_cons,List.mem_cons] at h
   simpa using once r hn.2 (h.resolve_left fun e=>hne e.symm)
  have he:x.FName=s:=by simpa using hx
  have:r.filter (fun x=>x.FName==s)=[]:=List.filter_eq_nil_iff.2 fun y hy hy2=>hn.1 (List.mem_map.2 ⟨y,hy,by rw [he]; simpa using hy2⟩);simp only [if_true,List.length_cons];rw [this]; rfl
theorem each_loop (o:TOp) (hn:(o.FVars.l.map TVar.FName).Nodup) (hl:o.FVars.l.length<=1048576):∀l:List Bs,(∀x∈l,x∈o.FVars.l.map TVar.FName)->Z13_q30 o l=some (Sum.inl ())
 | [],_=>rfl
 | s::r,h=>by
  rw [Z13_q30,count_loop o s _ 0 (by omega) (by omega),once _ hn (h s (.head _))];simp only [Ab.on];exact each_loop o hn hl r fun x hx=>h x (.tail _ hx)
theorem ops_loop {q:TQuery}(hs:∀o∈q.FOps.l,o.sz<=1048576) (hA:∀k o,q.FOps.l[k]?=some o->OpOk q k o):∀(l:List TOp) (i:Nat),q.FOps.l.drop i=l->Z13_q13 q l i=some (Sum.inl ())
 | [],i,_=>rfl
 | o::r,i,hl=>by
  obtain⟨t1,t2,t3⟩:=take_next hl;obtain⟨u,e,g1,g2,g3,g4⟩:=hA i o t3;have hz:=hs o (List.mem_of_getElem? t3);have hvl:o.FVars.l.length<=1048576:=by
   have h1:=o.sz_def;have h2:=Sl.len_lt (f:=TVar.sz) o.FVars TVar.pos;omega
  have hle:=nodup_len _ _ g1 g2;have hge:=nodup_len _ _ g4 fun x hx=>by
   obtain⟨y,hy,rfl⟩:=List.mem_map.1 hx;exact g3 y hy
  rw [List.length_map] at hle hge;rw [Z13_q13,e,Option.bind_some];simp only [Ab.on];rw [show decide (((u.l.length:Nat):Int)=((o.FVars.l.length:Nat):Int))=true from decide_eq_true (by omega),Bool.not_true,cond_false,each_loop o g4 hvl u.l g2,Option.bind_some];exact ops_loop hs hA r (i+1) t2
theorem varsClean_eq {d:TDoc}{q:TQuery}(hwd:d.wf) (hwq:q.wf) (hd:d.sz<=1048576) (hq:q.sz<=1048576):Z13 d q=some true:=by
 rw [Z13_eq];unfold Z13_q;obtain⟨b,hb⟩:=fits16_ok hd hq;rw [Z15_eq] at hb;rw [hb,Option.bind_some];cases b
 ·simp [guardO,example16]
 obtain⟨f1,f2⟩:=fits_facts hb;have hQ:=qv_of hq f1 f2;obtain⟨l,e1,e2⟩:=check_told (N:=1048575) (by omega) (insOk_of hwd hd) (dsok_of hwd hd) hQ (vars_of hwq hq);simp only [guardO,Bool.not_true,Bool.not_false,if_true,Bool.false_or];rw [e1,Option.bind_some];by_cases hl:l.l.length=0
 ·rw [show decide ((0:Int)<((l.l.length:Nat):Int))=false from decide_eq_false (by omega),cond_false,ops_loop hQ.osz (e2 hl) q.FOps.l 0 rfl,Option.bind_some];simp only [Ab.on,example16];rfl
 rw [show decide ((0:Int)<((l.l.length:Nat):Int))=true from decide_eq_true (by omega),cond_true,example16];rfl
end Go.Proofs

namespace Go.Proofs.YtimiconoebjfbaaGreatDoor
open Go Go.Ab Go.RowKit Go.ChangeShapes Go.WideShapes Go.ChangeAt
variable {lou:Lou}
theorem bulkAll {H:Type}(l:List (DataW H)):Rows.uptoBulkAll l=(l.map Rows.uptoBulk).sum:=by
 induction l with
 | nil=>rfl
 | cons x r ih=>simp only [Rows.uptoBulkAll,List.map_cons,List.sum_cons,ih]
theorem bulkB {H:Type}:Bulk (H:=H) Rows.uptoBulk:=by
 refine⟨fun d=>?_,fun b=>by simp [Rows.uptoBulk],fun e s=>by simp only [Rows.uptoBulk,bulkAll]; omega,fun l=>by simp only [Rows.uptoBulk,bulkAll]; omega⟩;cases d with
 | lit l=>cases l<;>simp [Rows.uptoBulk]
 | nil=>simp [Rows.uptoBulk]
 | ptr d=>simp [Rows.uptoBulk]
 | slice elems spare=>simp [Rows.uptoBulk]
 | agg parts=>simp [Rows.uptoBulk]
 | iface t d=>simp [Rows.uptoBulk]
 | map entries=>simp [Rows.uptoBulk]
 | held h=>simp [Rows.uptoBulk]
theorem own:ownKnob Tryz.prog.godebug=none:=by kernel_rfl
theorem laid:laidOutB Tryz.prog=true:=by kernel_rfl
theorem bound {H:Type}{l:List (DataW H)}(hk:Rows.uptoSmall H l=true):Rows.uptoBulkAll l<=1048576:=of_decide_eq_true hk
theorem table {W:World}(h:laidMet Tryz.prog Rows.varsCleanUptoRow.laid W):∃u fr,W.heap[0]?=some (.cells (Lib.pow10Tab.map fun z=>Value.int .u64 z).toArray u fr) :=
 tab_of (P:=Tryz.prog) (name := "internal/strconv.uint64pow10") (g:=0) (t:=188) (e:=180) (n:=20) (by kernel_rfl) (by kernel_rfl) (by kernel_rfl) (by kernel_rfl) (by kernel_rfl) (by kernel_rfl) h
  (by rw [show (Lib.tabData .u64 Lib.pow10Tab:DataW Unit)=Rows.laid_internal_strconv_uint64pow10 from(by kernel_rfl)]; exact .tail _ (.tail _ (.head _)))
theorem isTab (u:TypeId) (fr:Nat×Nat):IsTab Tryz.prog (.fix 0 (.cells (Lib.pow10Tab.map fun z=>Value.int .u64 z).toArray u fr)):=.of (by kernel_rfl)
theorem varsClean_call (d:TDoc) (q:TQuery) (hwd:d.wf) (hwq:q.wf) (hd:d.sz<=1048576) (hq:q.sz<=1048576) (u:TypeId) (fr:Nat×Nat):ACalls Tryz.prog 3 [.agg d.c,.agg q.c] (hTab 0 (.cells (Lib.pow10Tab.map fun z=>Value.int .u64 z).toArray u fr)) fun r h'=>r=.a (.d (.bool true))/\h'=hTab 0 (.cells (Lib.pow10Tab.map fun z=>Value.int .u64 z).toArray u fr) :=
 Z13_walk (varsClean_eq hwd hwq hd hq) _ (gT:=0) rfl (isTab u fr)
end Go.Proofs.YtimiconoebjfbaaGreatDoor

