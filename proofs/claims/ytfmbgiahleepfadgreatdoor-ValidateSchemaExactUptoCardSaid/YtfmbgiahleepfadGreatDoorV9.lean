import Derived.Test.YtfmbgiahleepfadGreatDoorV8
import Derived.Test.YtfmbgiahleepfadGreatDoorRows
set_option maxRecDepth 100000
set_option maxHeartbeats 2000000
set_option linter.unusedVariables false
set_option linter.unusedSimpArgs false
namespace Go.Proofs
open Go Go.Ab
def flS (b:Bool) (e:Int) (at_:Bs):List Z4:=bif b then [Z4.mk e at_] else []
def okN (s:Bs):Bool:=Z39_q s&&!Z141_q s
def typX (d:TDoc) (n at_:Bs) (k:Int):List Z4 :=
 bif !(fnd d.FDefs.l n).2&&!Z119_q n then flS true 8 at_ else bif decide (k=(0:Int)) then flS (!Z119_q n&&decide ((fnd d.FDefs.l n).1.FKind=(5:Int))) 10 at_ else flS (!Z116_q d n) 10 at_
def inputsX (d:TDoc) (a b:Bs):List Bs->List Z7->List Z4
 | _,[]=>[]
 | s,x::r=>(flS (!okN x.FName) 6 (a++x.FName++b)++flS (s.contains x.FName) 7 (a++x.FName++b))++(typX d x.FType.FName (a++x.FName++b) 1++inputsX d a b (s++[x.FName]) r)
def fieldsX (d:TDoc) (tn:Bs):List Bs->List Z5->List Z4
 | _,[]=>[]
 | s,x::r=>(flS (!okN x.FName) 6 (tn++[46]++x.FName)++flS (s.contains x.FName) 7 (tn++[46]++x.FName))++(typX d x.FType.FName (tn++[46]++x.FName) 0++(inputsX d (tn++[46]++x.FName++[40]) [41] [] x.FArgs.l++fieldsX d tn (s++[x.FName]) r))
def wordX (s:Bs):Bool:=(((s==([116,114,117,101]:Bs)))||((s==([102,97,108,115,101]:Bs))))||((s==([110,117,108,108]:Bs)))
def membersX (tn:Bs):List Bs->List Z8->List Z4
 | _,[]=>[]
 | s,x::r=>(flS (wordX x.FName||!okN x.FName) 6 (tn++[46]++x.FName)++flS (s.contains x.FName) 7 (tn++[46]++x.FName))++membersX tn (s++[x.FName]) r
def emptyX (t:TDef):Bool:=bif (bif (decide (t.FKind=(1:Int))) then((decide (t.FKind=(1:Int)))) else((decide (t.FKind=(2:Int))))) then((decide (((t.FFields.l.length:Nat):Int)=(0:Int)))) else(bif (bif (decide (t.FKind=(3:Int))) then((decide (t.FKind=(3:Int)))) else((decide (t.FKind=(4:Int))))) then((decide (((t.FMembers.l.length:Nat):Int)=(0:Int)))) else(bif (decide (t.FKind=(5:Int))) then((decide (((t.FInputs.l.length:Nat):Int)=(0:Int)))) else(false)))
def kindX (t:TDef):Bool:=((((((t.FName==([81,117,101,114,121]:Bs)))||((t.FName==([77,117,116,97,116,105,111,110]:Bs))))||((t.FName==([83,117,98,115,99,114,105,112,116,105,111,110]:Bs))))&&(!decide (t.FKind=(1:Int))))||(decide (t.FKind<(1:Int))))||(decide ((5:Int)<t.FKind))
def partsX (d:TDoc) (t:TDef):List Z4 :=
 bif (bif (decide (t.FKind=(1:Int))) then((decide (t.FKind=(1:Int)))) else((decide (t.FKind=(2:Int))))) then fieldsX d t.FName [] t.FFields.l else bif decide (t.FKind=(4:Int)) then membersX t.FName [] t.FMembers.l else bif decide (t.FKind=(5:Int)) then inputsX d (t.FName++[46]) [] [] t.FInputs.l else []
noncomputable def wholeX (d:TDoc) (s:List Bs) (t:TDef):List Z4 :=
 (flS (!okN t.FName) 6 t.FName++flS (s.contains t.FName||Z119_q t.FName) 7 t.FName)++(flS (emptyX t) 8 t.FName++(flS (kindX t) 9 t.FName++flS (decide (t.FKind=(5:Int))&&circ d t) 5 t.FName))
noncomputable def defsS (d:TDoc):List Bs->List TDef->List Z4
 | _,[]=>[]
 | s,t::r=>wholeX d s t++(partsX d t++defsS d (s++[t.FName]) r)
noncomputable def checkX (d:TDoc) (b:Bool):List Z4:=defsS d [] d.FDefs.l++flS (b&&!(fnd d.FDefs.l ([81,117,101,114,121]:Bs)).2) 30 ([81,117,101,114,121]:Bs)
def Ad (o:Option Z3) (c:Z3) (X:List Z4):Prop:=∀c',o=some c'->c'.Fd=c.Fd/\c'.Ffaults.l=c.Ffaults.l++X
theorem Ad.pure (c:Z3):Ad (some c) c []:=fun c' h=>by cases h; simp
theorem Ad.id {o:Option Z3}{c:Z3}{X:List Z4}(h:Ad o c X):Ad (o.bind fun x=>some x) c X:=fun c' e=>by
 obtain⟨c1,e1,e⟩:=bindO_some e; cases e; exact h _ e1
theorem appC_l {α:Type}{z:Nat}{s r u:Sl α}(h:appC z s r=some u):u.l=s.l++r.l:=by
 unfold appC at h; split at h
 ·cases h; rfl
 ·cases h
theorem catC_l {a b s:Bs}(h:catC a b=some s):s=a++b:=by
 unfold catC at h; split at h
 ·cases h; rfl
 ·cases h
theorem add_ad (c:Z3) (b:Bool) (e:Int) (s:Bs):Ad (Z120_q c b e s) c (flS b e s):=fun c' h=>by
 unfold Z120_q at h;cases b
 ·cases h; exact⟨rfl,by simp [flS]⟩
 ·obtain⟨x,ex,h⟩:=bindO_some h;cases h; exact⟨rfl,appC_l ex⟩
theorem name_ad {c:Z3}{n a:Bs}{m:List Bs}{z:Z3×List Bs}(h:Z127_q c n a m=some z):z.2=insS m n/\z.1.Fd=c.Fd/\z.1.Ffaults.l=c.Ffaults.l++(flS (!okN n) 6 a++flS (m.contains n) 7 a):=by
 unfold Z127_q at h;rw [name_eq,Option.bind_some] at h;simp only [Ab.on] at h;have e:((!Z39_q n)||bif !(!Z39_q n) then Z141_q n else false)=!okN n:=by unfold okN; cases Z39_q n<;>cases Z141_q n<;>rfl
 rw [e] at h;obtain⟨c1,e1,h⟩:=bindO_some h;obtain⟨c2,e2,h⟩:=bindO_some h;cases h;obtain⟨h1,h2⟩:=add_ad _ _ _ _ _ e1;obtain⟨h3,h4⟩:=add_ad _ _ _ _ _ e2;exact⟨rfl,h3.trans h1,by rw [h4,h2,List.append_assoc]⟩
theorem typ_ad (c:Z3) (n a:Bs) (k:Int):Ad (Z128_q c n a k) c (typX c.Fd n a k):=by
 unfold Z128_q typX;simp only [Ab.on,find_eq];cases hf:(fnd c.Fd.FDefs.l n).2<;>cases hs:Z119_q n<;>simp only [Bool.not_true,Bool.not_false,Bool.and_self,Bool.and_true,Bool.and_false,Bool.true_and,Bool.false_and,cond_true,cond_false]
 case false.false=>exact(add_ad _ _ _ _).id
 all_goals
  cases decide (k=(0:Int))<;>simp only [cond_true,cond_false]
  ·exact(add_ad _ _ _ _).id
  ·first
    | exact(add_ad _ _ _ _).id
    | (unfold Z129_q; simp only [Ab.on,find_eq]; exact(add_ad _ _ _ _).id)
def SameS (m s:List Bs):Prop:=∀n,m.contains n=s.contains n
theorem SameS.nil:SameS [] []:=fun _=>rfl
theorem SameS.ins {m s:List Bs}(h:SameS m s) (n:Bs):SameS (insS m n) (s++[n]):=fun k=>by
 have h1:=h k;rw [Bool.eq_iff_iff] at h1 ⊢;simp only [List.contains_iff_mem,insS_iff,List.mem_append,List.mem_singleton] at h1 ⊢;rw [h1]
theorem inputs_ad (a b:Bs):∀(l:List Z7) (c:Z3) (m s:List Bs),SameS m s->Ad (Z123_q5 a b l c m) c (inputsX c.Fd a b s l)
 | [],c,m,s,_=>by rw [Z123_q5]; exact .pure c
 | x::r,c,m,s,hm=>fun c' h=>by
  rw [Z123_q5] at h;simp only [Ab.on] at h;obtain⟨s1,e1,h⟩:=bindO_some h;obtain⟨s2,e2,h⟩:=bindO_some h;obtain rfl:=catC_l e1;obtain rfl:=catC_l e2;obtain⟨z,ez,h⟩:=bindO_some h;obtain⟨h1,h2,h3⟩:=name_ad ez;obtain⟨c2,e3,h⟩:=bindO_some h;obtain⟨h4,h5⟩:=typ_ad _ _ _ _ _ e3;rw [h1] at h;obtain⟨h6,h7⟩:=inputs_ad a b r c2 _ _ (hm.ins x.FName) _ h;have hd:c2.Fd=c.Fd:=h4.trans h2;refine⟨h6.trans hd, ?_⟩;rw [h7,h5,h3,hd,h2,inputsX,hm x.FName]
  simp only [List.append_assoc]
theorem inputs_top (c:Z3) (l:Sl Z7) (a b:Bs):Ad (Z123_q c l a b) c (inputsX c.Fd a b [] l.l):=by
 unfold Z123_q;exact(inputs_ad a b l.l c [] [] .nil).id
theorem fields_ad (t:TDef):∀(l:List Z5) (c:Z3) (m s:List Bs),SameS m s->Ad (Z122_q6 t l c m) c (fieldsX c.Fd t.FName s l)
 | [],c,m,s,_=>by rw [Z122_q6]; exact .pure c
 | x::r,c,m,s,hm=>fun c' h=>by
  rw [Z122_q6] at h;simp only [Ab.on] at h;obtain⟨s1,e1,h⟩:=bindO_some h;obtain⟨s2,e2,h⟩:=bindO_some h;obtain rfl:=catC_l e1;obtain rfl:=catC_l e2;obtain⟨z,ez,h⟩:=bindO_some h;obtain⟨h1,h2,h3⟩:=name_ad ez;obtain⟨c2,e3,h⟩:=bindO_some h;obtain⟨h4,h5⟩:=typ_ad _ _ _ _ _ e3;obtain⟨s3,e4,h⟩:=bindO_some h;obtain rfl:=catC_l e4;obtain⟨c3,e5,h⟩:=bindO_some h;obtain⟨h8,h9⟩:=inputs_top _ _ _ _ _ e5;rw [h1] at h
  obtain⟨h6,h7⟩:=fields_ad t r c3 _ _ (hm.ins x.FName) _ h;have hd:c2.Fd=c.Fd:=h4.trans h2;have hd3:c3.Fd=c.Fd:=h8.trans hd;refine⟨h6.trans hd3, ?_⟩;rw [h7,h9,h5,h3,hd3,hd,h2,fieldsX,hm x.FName];simp only [List.append_assoc]
theorem members_ad (t:TDef):∀(l:List Z8) (c:Z3) (m s:List Bs),SameS m s->Ad (Z126_q6 t l c m) c (membersX t.FName s l)
 | [],c,m,s,_=>by rw [Z126_q6]; exact .pure c
 | x::r,c,m,s,hm=>fun c' h=>by
  rw [Z126_q6] at h;simp only [Ab.on] at h;obtain⟨s1,e1,h⟩:=bindO_some h;obtain⟨s2,e2,h⟩:=bindO_some h;obtain rfl:=catC_l e1;obtain rfl:=catC_l e2;have rest:∀b:Bool,b=(wordX x.FName||!okN x.FName)->(Z120_q c b (6:Int) (t.FName++[46]++x.FName)).bind (fun x23=>(Z120_q x23 (m.contains x.FName) (7:Int) (t.FName++[46]++x.FName)).bind fun x25=>Z126_q6 t r x25 (insS m x.FName))=some c'->c'.Fd=c.Fd/\c'.Ffaults.l=c.Ffaults.l++membersX t.FName s (x::r):=by
   intro b hb h;obtain⟨c1,e3,h⟩:=bindO_some h;obtain⟨c2,e4,h⟩:=bindO_some h;obtain⟨h1,h2⟩:=add_ad _ _ _ _ _ e3;obtain⟨h3,h4⟩:=add_ad _ _ _ _ _ e4;obtain⟨h5,h6⟩:=members_ad t r c2 _ _ (hm.ins x.FName) _ h;refine⟨h5.trans (h3.trans h1), ?_⟩;rw [h6,h4,h2,hb,membersX,hm x.FName];simp only [List.append_assoc]
  rcases guardT h with ⟨g,v,ev,h⟩|⟨g,h⟩
  ·rw [name_eq] at ev; cases ev;refine rest _ ?_ h;have g:wordX x.FName=false:=Bool.not_inj (show (!wordX x.FName)=!false from g);unfold wordX at g ⊢;rw [g]; unfold okN;cases Z39_q x.FName<;>cases Z141_q x.FName<;>rfl
  ·refine rest _ ?_ h;have g:wordX x.FName=true:=Bool.not_inj (show (!wordX x.FName)=!true from g);unfold wordX at g ⊢;rw [g]; rfl
end Go.Proofs

namespace Go.Proofs
open Go Go.Ab
theorem defS_ad {d:TDoc}{t:TDef}{i:Nat}(ht:d.FDefs.l[i]?=some t) (hl:d.FDefs.l.length<=1048576){c:Z3}(hd:c.Fd=d){m s:List Bs}(hm:SameS m s){z:Z3×List Bs}(h:Z121_q c (i:Int) m=some z) :
  z.1.Fd=d/\z.1.Ffaults.l=c.Ffaults.l++(wholeX d s t++partsX d t)/\SameS z.2 (s++[t.FName]):=by
 unfold Z121_q at h;have hidx:idxC c.Fd.FDefs.l (i:Int)=some t:=by rw [hd]; unfold idxC; rw [if_pos (by simp),Int.toNat_natCast,ht]
 rw [hidx,Option.bind_some,name_eq,Option.bind_some] at h;simp only [Ab.on] at h;have en:((!Z39_q t.FName)||bif !(!Z39_q t.FName) then Z141_q t.FName else false)=!okN t.FName:=by unfold okN; cases Z39_q t.FName<;>cases Z141_q t.FName<;>rfl
 have e7:(m.contains t.FName||bif !(m.contains t.FName) then Z119_q t.FName else false)=(s.contains t.FName||Z119_q t.FName):=by
  rw [<- hm]; cases m.contains t.FName<;>cases Z119_q t.FName<;>rfl
 rw [en,e7] at h;obtain⟨c1,e1,h⟩:=bindO_some h;obtain⟨c2,e2,h⟩:=bindO_some h;obtain⟨c3,e3,h⟩:=bindO_some h;obtain⟨c4,e4,h⟩:=bindO_some h;obtain⟨a1,b1⟩:=add_ad _ _ _ _ _ e1;obtain⟨a2,b2⟩:=add_ad _ _ _ _ _ e2;obtain⟨a3,b3⟩:=add_ad _ _ _ _ _ e3;obtain⟨a4,b4⟩:=add_ad _ _ _ _ _ e4;have d4:c4.Fd=d:=a4.trans (a3.trans (a2.trans (a1.trans hd)));have l4:c4.Ffaults.l=c.Ffaults.l++((flS (!okN t.FName) 6 t.FName++flS (s.contains t.FName||Z119_q t.FName) 7 t.FName)++(flS (emptyX t) 8 t.FName++flS (kindX t) 9 t.FName)):=by
  rw [b4,b3,b2,b1]; simp only [List.append_assoc]; rfl
 have rest:∀b:Bool,(decide (t.FKind=(5:Int))&&b)=(decide (t.FKind=(5:Int))&&circ d t) ->
   ((Z120_q c4 ((decide (t.FKind=(5:Int)))&&b) (5:Int) t.FName).bind fun x21=>bif (bif (decide (t.FKind=(1:Int))) then((decide (t.FKind=(1:Int)))) else((decide (t.FKind=(2:Int))))) then((Z122_q x21 t).bind fun x26=>some (x26,(insS m t.FName))) else(bif (decide (t.FKind=(4:Int))) then((Z126_q x21 t).bind fun x29=>some (x29,(insS m t.FName))) else(bif (decide (t.FKind=(5:Int))) then((catC t.FName ([46]:Bs)).bind fun x32=>(Z123_q x21 t.FInputs x32 ([]:Bs)).bind fun x33=>some (x33,(insS m t.FName))) else(some (x21,(insS m t.FName))))))=some z->z.1.Fd=d/\z.1.Ffaults.l=c.Ffaults.l++(wholeX d s t++partsX d t)/\SameS z.2 (s++[t.FName]):=by
  intro b hb h;rw [hb] at h;obtain⟨c5,e5,h⟩:=bindO_some h;obtain⟨a5,b5⟩:=add_ad _ _ _ _ _ e5;have d5:c5.Fd=d:=a5.trans d4;have l5:c5.Ffaults.l=c.Ffaults.l++wholeX d s t:=by
   rw [b5,l4]; unfold wholeX; simp only [List.append_assoc]
  unfold partsX;rcases condT h with ⟨k,h⟩|⟨k,h⟩<;>rw [k]
  ·obtain⟨c6,e6,h⟩:=bindO_some h;cases h;unfold Z122_q at e6;obtain⟨a6,b6⟩:=(fields_ad t t.FFields.l c5 [] [] .nil).id _ e6;rw [d5] at b6;exact⟨a6.trans d5,by rw [b6,l5,cond_true,List.append_assoc],hm.ins _⟩
  ·rw [cond_false];rcases condT h with ⟨k,h⟩|⟨k,h⟩<;>rw [k]
   ·obtain⟨c6,e6,h⟩:=bindO_some h;cases h;unfold Z126_q at e6;obtain⟨a6,b6⟩:=(members_ad t t.FMembers.l c5 [] [] .nil).id _ e6;exact⟨a6.trans d5,by rw [b6,l5,cond_true,List.append_assoc],hm.ins _⟩
   ·rw [cond_false];rcases condT h with ⟨k,h⟩|⟨k,h⟩<;>rw [k]
    ·obtain⟨s1,es,h⟩:=bindO_some h;obtain rfl:=catC_l es;obtain⟨c6,e6,h⟩:=bindO_some h;cases h;obtain⟨a6,b6⟩:=inputs_top _ _ _ _ _ e6;rw [d5] at b6;exact⟨a6.trans d5,by rw [b6,l5,cond_true,List.append_assoc],hm.ins _⟩
    ·cases h;exact⟨d5,by rw [l5,cond_false,List.append_nil],hm.ins _⟩
 rcases guardT h with ⟨g,v,ev,h⟩|⟨g,h⟩
 ·rw [loops_is d4 hl] at ev;cases ev;exact rest _ rfl h
 ·exact rest _ (by rw [g]; rfl) h
theorem checkS_loop {d:TDoc}(hl:d.FDefs.l.length<=1048576):∀(l:List TDef) (i:Nat) (c c':Z3) (m s:List Bs),d.FDefs.l.drop i=l->c.Fd=d->SameS m s->Z112_q20 l i c m=some c'->c'.Fd=d/\c'.Ffaults.l=c.Ffaults.l++defsS d s l
 | [],i,c,c',m,s,_,hd,_,h=>by rw [Z112_q20] at h; cases h; exact⟨hd,by simp [defsS]⟩
 | t::r,i,c,c',m,s,hdr,hd,hm,h=>by
  obtain⟨t1,t2⟩:=drop_nextS hdr;rw [Z112_q20] at h;obtain⟨z,ez,h⟩:=bindO_some h;obtain⟨a,b,e⟩:=defS_ad t2 hl hd hm ez;obtain⟨a2,b2⟩:=checkS_loop hl r (i+1) z.1 c' z.2 _ t1 a e h;exact⟨a2,by rw [b2,b,defsS]; simp only [List.append_assoc]⟩
theorem checkS_is {d:TDoc}(hd:d.sz<=1048576) (b:Bool):∃l,Z112_q d b=some l/\l.l=checkX d b/\l.l.length<=9000000:=by
 have h1:=d.sz_def;have h2:Sl.sz TDef.sz d.FDefs=1+(d.FDefs.l.map TDef.sz).sum:=rfl;have h3:=Sl.len_lt (f:=TDef.sz) d.FDefs TDef.pos;obtain⟨c,e,f,l⟩:=SKg (scheck_loop (d:=d) (fun t ht=>by have:=Sl.mem_le (f:=TDef.sz) ht; omega) (by omega) d.FDefs.l 0 (Z3.mk d (Sl.nil:Sl Z4)) [] rfl rfl (by show 0+_<=_; omega));have l:c.Ffaults.l.length<=0+(5*d.FDefs.l.length+3*(d.FDefs.l.map TDef.sz).sum):=l;obtain⟨_,hc⟩:=checkS_loop (d:=d) (by omega) d.FDefs.l 0 (Z3.mk d (Sl.nil:Sl Z4)) c [] [] rfl rfl .nil e
 have hc:c.Ffaults.l=defsS d [] d.FDefs.l:=hc;unfold Z112_q;rw [e,Option.bind_some];simp only [Ab.on,find_eq];unfold checkX;cases b&&!(fnd d.FDefs.l ([81,117,101,114,121]:Bs)).2
 ·exact⟨_,rfl,by show c.Ffaults.l=_; rw [hc]; simp [flS],by show c.Ffaults.l.length<=_; omega⟩
 ·obtain⟨c2,e2,_,l2⟩:=SKg (sadd (c:=c) (by omega) true 30 ([81,117,101,114,121]:Bs));rw [cond_true,e2];obtain⟨_,h5⟩:=add_ad _ _ _ _ _ e2;exact⟨_,rfl,by show c2.Ffaults.l=_; rw [h5,hc],by show c2.Ffaults.l.length<=_; omega⟩
end Go.Proofs

namespace Go.Proofs
open Go Go.Ab
theorem nodup_subV {α:Type} [DecidableEq α]:∀(l m:List α),l.Nodup->(∀x∈l,x∈m)->l.length<=m.length
 | [],_,_,_=>by simp
 | a::r,m,hn,hs=>by
  have h1:a∈m:=hs a (by simp);have h2:=nodup_subV r (m.erase a) (List.nodup_cons.1 hn).2 fun x hx=>by
   refine(List.mem_erase_of_ne ?_).2 (hs x (by simp [hx]));rintro rfl; exact(List.nodup_cons.1 hn).1 hx
  have h3:=List.length_erase_of_mem h1;have h4:0<m.length:=List.length_pos_of_mem h1;simp only [List.length_cons]; omega
def nxS (d:TDoc) (own:Bs) (l:List Bs) (x:Z7):List Bs:=if gd d own x&&!l.contains x.FType.FName then l++[x.FType.FName] else l
def nxL (d:TDoc) (t:List Z7) (own:Bs) (l:List Bs):List Bs:=t.foldl (nxS d own) l
theorem nx_mem (d:TDoc) (own:Bs) (t:List Z7):∀(l:List Bs) (n:Bs),n∈nxL d t own l↔n∈l\/∃x∈t,gd d own x=true/\x.FType.FName=n:=by
 unfold nxL;induction t with
 | nil=>intro l n; simp
 | cons x r ih =>
  intro l n;rw [List.foldl_cons,ih];unfold nxS;simp only [List.mem_cons,exists_eq_or_imp]
  split
  ·rename_i h
   rw [Bool.and_eq_true] at h;simp only [List.mem_append,List.mem_singleton];constructor
   ·rintro ((h1|rfl)|h1)
    ·exact .inl h1
    ·exact .inr (.inl ⟨h.1,rfl⟩)
    ·exact .inr (.inr h1)
   ·rintro (h1|⟨_,rfl⟩|h1)
    ·exact .inl (.inl h1)
    ·exact .inl (.inr rfl)
    ·exact .inr h1
  ·rename_i h
   constructor
   ·rintro (h1|h1)
    ·exact .inl h1
    ·exact .inr (.inr h1)
   ·rintro (h1|⟨h2,rfl⟩|h1)
    ·exact .inl h1
    ·rw [h2,Bool.true_and] at h;exact .inl (by simpa using h)
    ·exact .inr h1
theorem nx_nodup (d:TDoc) (own:Bs) (t:List Z7):∀(l:List Bs),l.Nodup->(nxL d t own l).Nodup:=by
 unfold nxL;induction t with
 | nil=>intro l h; exact h
 | cons x r ih =>
  intro l hl;rw [List.foldl_cons];refine ih _ ?_;unfold nxS
  split
  ·rename_i h
   rw [Bool.and_eq_true] at h;have h2:x.FType.FName∉l:=by simpa using h.2
   rw [List.nodup_append];refine⟨hl,by simp, ?_⟩;intro a ha b hb;simp only [List.mem_singleton] at hb;subst hb; rintro rfl; exact h2 ha
  ·exact hl
theorem nx_pre (d:TDoc) (own:Bs) (t:List Z7):∀(l:List Bs),l <+: nxL d t own l:=by
 unfold nxL;induction t with
 | nil=>intro l; exact List.prefix_refl _
 | cons x r ih =>
  intro l;rw [List.foldl_cons];refine List.IsPrefix.trans ?_ (ih _);unfold nxS
  split
  ·exact List.prefix_append _ _
  ·exact List.prefix_refl _
theorem fnd_in {l:List TDef}{s:Bs}(h:(fnd l s).2=true):s∈l.map (·.FName):=by
 have hn:=fnd_name h;rcases fnd_mem l s with e|e
 ·unfold fnd at h e hn;cases ef:l.find? (fun t=>t.FName==s) with
  | none=>rw [ef] at h; cases h
  | some t=>exact List.mem_map.2 ⟨t,List.mem_of_find?_eq_some ef,by have:=List.find?_some ef; simpa using this⟩
 ·exact List.mem_map.2 ⟨_,e,hn⟩
theorem gd_known {d:TDoc}{own:Bs}{x:Z7}(h:gd d own x=true):x.FType.FName=own\/x.FType.FName∈d.FDefs.l.map (·.FName):=by
 unfold gd at h;simp only [Bool.and_eq_true,Bool.or_eq_true] at h;rcases h.2 with h|h
 ·exact .inl (by simpa using h)
 ·exact .inr (fnd_in h.1)
structure Wrk (d:TDoc) (own:Bs) (t:List Z7) (i:Nat) (l:List Bs):Prop where
 reach:∀n∈l,Rch d own t n
 first:∀x∈t,gd d own x=true->x.FType.FName∈l
 done:∀k (h:k<l.length),k<i->∀x∈inp d l[k],gd d own x=true->x.FType.FName∈l
 nodup:l.Nodup
 known:∀n∈l,n=own\/n∈d.FDefs.l.map (·.FName)
 le:i<=l.length
theorem Wrk.start (d:TDoc) (own:Bs) (t:List Z7):Wrk d own t 0 (nxL d t own []):=by
 refine⟨fun n hn=>?_,fun x hx hg=>(nx_mem _ _ _ _ _).2 (.inr ⟨x,hx,hg,rfl⟩),fun k _ h=>absurd h (Nat.not_lt_zero _),nx_nodup _ _ _ _ List.nodup_nil,fun n hn=>?_,Nat.zero_le _⟩
 ·rcases (nx_mem _ _ _ _ _).1 hn with h|⟨x,hx,hg,rfl⟩
  ·simp at h
  ·exact .here hx hg
 ·rcases (nx_mem _ _ _ _ _).1 hn with h|⟨x,hx,hg,rfl⟩
  ·simp at h
  ·exact gd_known hg
theorem Wrk.step {d:TDoc}{own:Bs}{t:List Z7}{i:Nat}{l:List Bs}(h:Wrk d own t i l) (hi:i<l.length):Wrk d own t (i+1) (nxL d (inp d l[i]) own l):=by
 have hp:=nx_pre d own (inp d l[i]) l;have hsub:∀n,n∈l->n∈nxL d (inp d l[i]) own l:=fun n hn=>(nx_mem _ _ _ _ _).2 (.inl hn);refine⟨fun n hn=>?_,fun x hx hg=>hsub _ (h.first x hx hg),fun k hk hki x hx hg=>?_,nx_nodup _ _ _ _ h.nodup,fun n hn=>?_,Nat.le_trans hi hp.length_le⟩
 ·rcases (nx_mem _ _ _ _ _).1 hn with h1|⟨x,hx,hg,rfl⟩
  ·exact h.reach n h1
  ·exact .step (h.reach _ (List.getElem_mem hi)) hx hg
 ·have hkl:k<l.length:=by omega
  have e:(nxL d (inp d l[i]) own l)[k]=l[k]:=(hp.getElem hkl).symm;rw [e] at hx;by_cases hk2:k<i
  ·exact hsub _ (h.done k hkl hk2 x hx hg)
  ·have:k=i:=by omega
   subst this;exact(nx_mem _ _ _ _ _).2 (.inr ⟨x,hx,hg,rfl⟩)
 ·rcases (nx_mem _ _ _ _ _).1 hn with h1|⟨x,hx,hg,rfl⟩
  ·exact h.known n h1
  ·exact gd_known hg
theorem Wrk.len {d:TDoc}{own:Bs}{t:List Z7}{i:Nat}{l:List Bs}(h:Wrk d own t i l):l.length<=d.FDefs.l.length+1:=by
 have:=nodup_subV l (own::d.FDefs.l.map (·.FName)) h.nodup fun x hx=>by
  rcases h.known x hx with e|e
  ·simp [e]
  ·exact List.mem_cons_of_mem _ e
 simpa using this
open Classical in
theorem Wrk.end {d:TDoc}{own:Bs}{t:List Z7}{i:Nat}{l:List Bs}(h:Wrk d own t i l) (hi:l.length<=i):l.contains own=decide (Rch d own t own):=by
 have hall:∀n,Rch d own t n->n∈l:=by
  intro n hn;induction hn with
  | here hx hg=>exact h.first _ hx hg
  | @step n x _ hx hg ih =>
   obtain⟨k,hk,e⟩:=List.getElem_of_mem ih;exact h.done k hk (by omega) x (by rw [e]; exact hx) hg
 rw [Bool.eq_iff_iff];simp only [List.contains_iff_mem,decide_eq_true_eq];exact⟨fun hm=>h.reach _ hm,fun hr=>hall _ hr⟩
end Go.Proofs

namespace Go.Proofs
open Go Go.Ab
theorem r10_find6 (s:Bs) (l:List TDef):Z70_q6 s l=(match l.find? (fun t=>t.FName==s) with|some t=>Sum.inr (t,true)|none=>Sum.inl ()):=by
 induction l with
 | nil=>rfl
 | cons a r ih =>
  rw [Z70_q6,List.find?_cons];simp only [on,ih];cases a.FName==s<;>rfl
theorem r10_find (d:TDoc) (s:Bs):Z70_q d s=fnd d.FDefs.l s:=by
 unfold Z70_q fnd on;rw [r10_find6];cases d.FDefs.l.find? (fun t=>t.FName==s)<;>rfl
theorem fnd_zero {l:List TDef}{s:Bs}(h:(fnd l s).2=false):(fnd l s).1=TDef.zero:=by
 unfold fnd at h ⊢;cases e:l.find? (fun t=>t.FName==s) with
 | none=>rfl
 | some t=>rw [e] at h; cases h
theorem r10_isInput (d:TDoc) (n:Bs):Z72_q d n=Z116_q d n:=by
 unfold Z72_q Z73_q Z116_q Z117_q Z129_q;simp only [on,find_eq,r10_find,show Z74_q n=Z119_q n from rfl];cases hs:Z119_q n<;>cases hf:(fnd d.FDefs.l n).2
 ·rw [fnd_zero hf]; rfl
 ·simp only [Bool.false_or,Bool.true_and,Bool.not_false,cond_true];cases decide ((fnd d.FDefs.l n).1.FKind=(4:Int))<;>rfl
 ·rfl
 ·rfl
theorem allowed_is (s:Bs):Z75_q s=some (okN s):=by
 unfold Z75_q okN;simp only [on,reserved_is];cases Z39_q s<;>rfl
theorem names_is (n:Bs) (bad before:Bool) (at_:Bs):∃nl,Z84_q n bad before at_=some ⟨nl,flS (bad||!okN n) 6 at_++flS before 7 at_⟩:=by
 unfold Z84_q;rw [allowed_is];generalize okN n=b;cases bad<;>cases b<;>cases before<;>exact⟨_,rfl⟩
theorem map_any {α:Type}(f:α->Bs) (n:Bs):∀l:List α,(l.map f).contains n=l.any fun y=>f y==n
 | []=>rfl
 | a::r=>by
  rw [List.map_cons,List.contains_cons,map_any f n r,List.any_cons,BEq.comm]
theorem r10_input6 (n:Bs):∀l:List Z7,(match Z71_q6 n l with|.inl _=>false|.inr e=>e.2)=l.any fun y=>y.FName==n
 | []=>rfl
 | a::r=>by
  rw [Z71_q6,List.any_cons,<- r10_input6 n r];simp only [on];cases a.FName==n<;>rfl
theorem r10_input (s:Sl Z7) (n:Bs):(Z71_q s n).2=(s.l.map Z7.FName).contains n:=by
 rw [map_any,<- r10_input6];unfold Z71_q;simp only [on];cases Z71_q6 n s.l<;>rfl
theorem r10_field6 (n:Bs):∀l:List Z5,(match Z69_q6 n l with|.inl _=>false|.inr e=>e.2)=l.any fun y=>y.FName==n
 | []=>rfl
 | a::r=>by
  rw [Z69_q6,List.any_cons,<- r10_field6 n r];simp only [on];cases a.FName==n<;>rfl
theorem r10_field (t:TDef) (n:Bs):(Z69_q t n).2=(t.FFields.l.map Z5.FName).contains n:=by
 rw [map_any,<- r10_field6];unfold Z69_q;simp only [on];cases Z69_q6 n t.FFields.l<;>rfl
theorem take_next {α:Type}{l r:List α}{i:Nat}{x:α}(h:l.drop i=x::r):l.take (i+1)=l.take i++[x]:=by
 rw [List.take_add_one,(drop_nextS h).2]; rfl
theorem app24 {s r:Sl Z4}(h:s.l.length+r.l.length<=1000000000000):appC 24 s r=some ⟨s.nl&&r.l.isEmpty,s.l++r.l⟩:=appC_ok (by decide) (by omega)
theorem fl_app (u:Sl Z4) (b:Bool) (e:Int) (at_:Bs) (h:u.l.length<=100000000000):∃nl,(bif b then((appC 24 u (⟨false,[(Z4.mk e at_)]⟩:Sl Z4)).bind fun x=>some x) else some u)=some ⟨nl,u.l++flS b e at_⟩:=by
 cases b
 ·exact⟨u.nl,by simp [flS]⟩
 ·rw [cond_true,app24 (by simp; omega)]; exact⟨_,rfl⟩
theorem rtyp1 (d:TDoc) (n at_:Bs) (u:Sl Z4) (h:u.l.length<=100000000000):∃nl,(bif (!Z82_q d n) then((appC 24 u (⟨false,[(Z4.mk (8:Int) at_)]⟩:Sl Z4)).bind fun x32=>some x32) else(bif (!Z116_q d n) then((appC 24 u (⟨false,[(Z4.mk (10:Int) at_)]⟩:Sl Z4)).bind fun x37=>some x37) else(some u)))=some ⟨nl,u.l++typX d n at_ 1⟩:=by
 have e:(!Z82_q d n)=(!(fnd d.FDefs.l n).2&&!Z119_q n):=by
  unfold Z82_q;simp only [on,r10_find,show Z74_q n=Z119_q n from rfl];cases Z119_q n<;>cases (fnd d.FDefs.l n).2<;>rfl
 rw [e];unfold typX;cases (!(fnd d.FDefs.l n).2&&!Z119_q n)
 ·exact fl_app u _ 10 at_ h
 ·exact fl_app u true 8 at_ h
theorem rtyp0 (d:TDoc) (n at_:Bs) (u:Sl Z4) (h:u.l.length<=100000000000):∃nl,(bif (!Z82_q d n) then((appC 24 u (⟨false,[(Z4.mk (8:Int) at_)]⟩:Sl Z4)).bind fun x32=>some x32) else(bif (((!Z119_q n)&&(fnd d.FDefs.l n).2)&&(decide ((fnd d.FDefs.l n).1.FKind=(5:Int)))) then((appC 24 u (⟨false,[(Z4.mk (10:Int) at_)]⟩:Sl Z4)).bind fun x41=>some x41) else(some u)))=some ⟨nl,u.l++typX d n at_ 0⟩:=by
 have e:(!Z82_q d n)=(!(fnd d.FDefs.l n).2&&!Z119_q n):=by
  unfold Z82_q;simp only [on,r10_find,show Z74_q n=Z119_q n from rfl];cases Z119_q n<;>cases (fnd d.FDefs.l n).2<;>rfl
 have e2:(((!Z119_q n)&&(fnd d.FDefs.l n).2)&&(decide ((fnd d.FDefs.l n).1.FKind=(5:Int))))=(!Z119_q n&&decide ((fnd d.FDefs.l n).1.FKind=(5:Int))):=by
  cases hf:(fnd d.FDefs.l n).2
  ·rw [fnd_zero hf]; cases Z119_q n<;>rfl
  ·cases Z119_q n<;>rfl
 rw [e,e2];unfold typX;cases (!(fnd d.FDefs.l n).2&&!Z119_q n)
 ·exact fl_app u _ 10 at_ h
 ·exact fl_app u true 8 at_ h
theorem rinputs {d:TDoc}{a1:Sl Z7}{a b:Bs}(ha:a.length<=4000000) (hb:b.length<=4000000):∀(l:List Z7) (i:Nat) (s:Sl Z4),a1.l.drop i=l->(∀x∈l,x.FName.length<=1048576) ->
  s.l.length+(inputsX d a b ((a1.l.take i).map Z7.FName) l).length<=10000000000->∃nl,Z81_q7 d a1 a b l i s=some ⟨nl,s.l++inputsX d a b ((a1.l.take i).map Z7.FName) l⟩
 | [],i,s,_,_,_=>⟨s.nl,by rw [Z81_q7]; simp [inputsX]⟩
 | x::r,i,s,hd,hx,hl=>by
  have hn:=hx x (.head _);rw [inputsX] at hl ⊢;simp only [List.length_append] at hl;rw [Z81_q7];simp only [on,r10_isInput];rw [catC_ok (by omega),Option.bind_some,catC_ok (by simp; omega),Option.bind_some,r10_input];obtain⟨n1,e1⟩:=names_is x.FName false (((a1.l.take i).map Z7.FName).contains x.FName) (a++x.FName++b);simp only [Bool.false_or] at e1;rw [e1,Option.bind_some,app24 (by simp only [List.length_append]; omega),Option.bind_some]
  obtain⟨n2,e2⟩:=rtyp1 d x.FType.FName (a++x.FName++b) ⟨s.nl&&(flS (!okN x.FName) 6 (a++x.FName++b)++flS (((a1.l.take i).map Z7.FName).contains x.FName) 7 (a++x.FName++b)).isEmpty,s.l++(flS (!okN x.FName) 6 (a++x.FName++b)++flS (((a1.l.take i).map Z7.FName).contains x.FName) 7 (a++x.FName++b))⟩ (by simp only [List.length_append]; omega);rw [e2,Option.bind_some];have ht:(a1.l.take (i+1)).map Z7.FName=(a1.l.take i).map Z7.FName++[x.FName]:=by rw [take_next hd,List.map_append]; rfl
  obtain⟨n3,e3⟩:=rinputs (d:=d) ha hb r (i+1) ⟨n2,(s.l++(flS (!okN x.FName) 6 (a++x.FName++b)++flS (((a1.l.take i).map Z7.FName).contains x.FName) 7 (a++x.FName++b)))++typX d x.FType.FName (a++x.FName++b) 1⟩ (drop_nextS hd).1 (fun y hy=>hx y (.tail _ hy)) (by rw [ht]; simp only [List.length_append]; omega);rw [e3,ht];exact⟨n3,by simp only [List.append_assoc]⟩
theorem rinputs_top {d:TDoc}(a1:Sl Z7){a b:Bs}(ha:a.length<=4000000) (hb:b.length<=4000000) (hx:∀x∈a1.l,x.FName.length<=1048576) (hl:(inputsX d a b [] a1.l).length<=10000000000):∃nl,Z81_q d a1 a b=some ⟨nl,inputsX d a b [] a1.l⟩:=by
 obtain⟨nl,e⟩:=rinputs (d:=d) ha hb a1.l 0 (Sl.nil:Sl Z4) rfl hx (by show 0+_<=_; simpa using hl);unfold Z81_q;rw [e];exact⟨nl,rfl⟩
theorem rfields {d:TDoc}{t:TDef}(ha:t.FName.length<=1048576):∀(l:List Z5) (i:Nat) (s:Sl Z4),t.FFields.l.drop i=l->(∀x∈l,x.FName.length<=1048576/\∀y∈x.FArgs.l,y.FName.length<=1048576) ->
  s.l.length+(fieldsX d t.FName ((t.FFields.l.take i).map Z5.FName) l).length<=10000000000->∃nl,Z79_q7 d t l i s=some ⟨nl,s.l++fieldsX d t.FName ((t.FFields.l.take i).map Z5.FName) l⟩
 | [],i,s,_,_,_=>⟨s.nl,by rw [Z79_q7]; simp [fieldsX]⟩
 | x::r,i,s,hd,hx,hl=>by
  obtain⟨hn,hy⟩:=hx x (.head _);rw [fieldsX] at hl ⊢;simp only [List.length_append] at hl;rw [Z79_q7];simp only [on,r10_find,show Z74_q x.FType.FName=Z119_q x.FType.FName from rfl];rw [catC_ok (by simp; omega),Option.bind_some,catC_ok (by simp; omega),Option.bind_some,r10_field];obtain⟨n1,e1⟩:=names_is x.FName false (((t.FFields.l.take i).map Z5.FName).contains x.FName) (t.FName++[46]++x.FName);simp only [Bool.false_or] at e1
  rw [e1,Option.bind_some,app24 (by simp only [List.length_append]; omega),Option.bind_some];obtain⟨n2,e2⟩:=rtyp0 d x.FType.FName (t.FName++[46]++x.FName) ⟨s.nl&&(flS (!okN x.FName) 6 (t.FName++[46]++x.FName)++flS (((t.FFields.l.take i).map Z5.FName).contains x.FName) 7 (t.FName++[46]++x.FName)).isEmpty,s.l++(flS (!okN x.FName) 6 (t.FName++[46]++x.FName)++flS (((t.FFields.l.take i).map Z5.FName).contains x.FName) 7 (t.FName++[46]++x.FName))⟩ (by simp only [List.length_append]; omega)
  rw [e2,Option.bind_some,catC_ok (by simp; omega),Option.bind_some];obtain⟨n3,e3⟩:=rinputs_top (d:=d) x.FArgs (a:=t.FName++[46]++x.FName++[40]) (b:=[41]) (by simp; omega) (by simp) hy (by omega);rw [e3,Option.bind_some,app24 (by simp only [List.length_append]; omega),Option.bind_some];have ht:(t.FFields.l.take (i+1)).map Z5.FName=(t.FFields.l.take i).map Z5.FName++[x.FName]:=by rw [take_next hd,List.map_append]; rfl
  obtain⟨n4,e4⟩:=rfields (d:=d) ha r (i+1) ⟨n2&&(inputsX d (t.FName++[46]++x.FName++[40]) [41] [] x.FArgs.l).isEmpty,((s.l++(flS (!okN x.FName) 6 (t.FName++[46]++x.FName)++flS (((t.FFields.l.take i).map Z5.FName).contains x.FName) 7 (t.FName++[46]++x.FName)))++typX d x.FType.FName (t.FName++[46]++x.FName) 0)++inputsX d (t.FName++[46]++x.FName++[40]) [41] [] x.FArgs.l⟩ (drop_nextS hd).1 (fun y hy=>hx y (.tail _ hy)) (by rw [ht]; simp only [List.length_append]; omega)
  rw [e4,ht];exact⟨n4,by simp only [List.append_assoc]⟩
theorem rmem26 (t:TDef) (x:Z8):∀(m k:Nat) (b:Bool),k+m<=t.FMembers.l.length->Z83_q26 t x m k b=some (b||((t.FMembers.l.drop k).take m).any fun y=>y.FName==x.FName)
 | 0,k,b,_=>by rw [Z83_q26]; simp
 | m+1,k,b,h=>by
  rw [Z83_q26];have hk:k<t.FMembers.l.length:=by omega
  rw [List.drop_eq_getElem_cons hk,List.take_succ_cons,List.any_cons];cases b
  ·simp only [guardO,Bool.not_false,if_true,List.getElem?_eq_getElem hk,Option.bind_some,Bool.false_or];rw [rmem26 t x m (k+1) _ (by omega)]
  ·simp only [guardO,Bool.not_true,Bool.false_eq_true,if_false,Bool.true_or];rw [rmem26 t x m (k+1) _ (by omega),Bool.true_or]
theorem rmembers {t:TDef}(ha:t.FName.length<=1048576):∀(l:List Z8) (i:Nat) (s:Sl Z4),t.FMembers.l.drop i=l->(∀x∈l,x.FName.length<=1048576) ->
  s.l.length+(membersX t.FName ((t.FMembers.l.take i).map Z8.FName) l).length<=10000000000->∃nl,Z83_q7 t l i s=some ⟨nl,s.l++membersX t.FName ((t.FMembers.l.take i).map Z8.FName) l⟩
 | [],i,s,_,_,_=>⟨s.nl,by rw [Z83_q7]; simp [membersX]⟩
 | x::r,i,s,hd,hx,hl=>by
  have hn:=hx x (.head _);have hi:i<t.FMembers.l.length:=by
   have:=congrArg List.length hd; simp at this; omega
  rw [membersX] at hl ⊢;simp only [List.length_append] at hl;rw [Z83_q7];simp only [on];rw [rmem26 t x i 0 false (by omega),Option.bind_some,catC_ok (by simp; omega),Option.bind_some,catC_ok (by simp; omega),Option.bind_some,List.drop_zero,Bool.false_or,<- map_any];obtain⟨n1,e1⟩:=names_is x.FName (wordX x.FName) (((t.FMembers.l.take i).map Z8.FName).contains x.FName) (t.FName++[46]++x.FName);have e2:Z84_q x.FName ((((x.FName==([116,114,117,101]:Bs)))||((x.FName==([102,97,108,115,101]:Bs))))||((x.FName==([110,117,108,108]:Bs)))) (((t.FMembers.l.take i).map Z8.FName).contains x.FName) (t.FName++[46]++x.FName)=_:=e1
  rw [e2,Option.bind_some,app24 (by simp only [List.length_append]; omega),Option.bind_some];have ht:(t.FMembers.l.take (i+1)).map Z8.FName=(t.FMembers.l.take i).map Z8.FName++[x.FName]:=by rw [take_next hd,List.map_append]; rfl
  have H:∀u:Sl Z4,u.l=s.l++(flS (wordX x.FName||!okN x.FName) 6 (t.FName++[46]++x.FName)++flS (((t.FMembers.l.take i).map Z8.FName).contains x.FName) 7 (t.FName++[46]++x.FName)) ->
    ∃nl,Z83_q7 t r (i+1) u=some ⟨nl,s.l++((flS (wordX x.FName||!okN x.FName) 6 (t.FName++[46]++x.FName)++flS (((t.FMembers.l.take i).map Z8.FName).contains x.FName) 7 (t.FName++[46]++x.FName))++membersX t.FName ((t.FMembers.l.take i).map Z8.FName++[x.FName]) r)⟩:=by
   intro u hu;obtain⟨n4,e4⟩:=rmembers ha r (i+1) u (drop_nextS hd).1 (fun y hy=>hx y (.tail _ hy)) (by rw [ht,hu]; simp only [List.length_append]; omega);rw [e4,ht,hu];exact⟨n4,by simp only [List.append_assoc]⟩
  exact H _ rfl
end Go.Proofs

namespace Go.Proofs
open Go Go.Ab
theorem r10_has5 (n:Bs):∀l:List Bs,(match Z80_q5 n l with|.inl _=>false|.inr e=>e)=l.contains n
 | []=>rfl
 | a::r=>by
  rw [Z80_q5,List.contains_cons,<- r10_has5 n r,BEq.comm];simp only [on];cases a==n<;>rfl
theorem Z80_is (s:Sl Bs) (n:Bs):Z80_q s n=s.l.contains n:=by
 rw [<- r10_has5];unfold Z80_q;simp only [on];cases Z80_q5 n s.l<;>rfl
theorem direct_is (t:TRef):Z77_q t=some (dirB t):=by
 unfold Z77_q dirB;cases h:t.FWraps.l with
 | nil=>rfl
 | cons a r =>
  cases h2:decide (((((a::r:List Int)).length:Nat):Int)=(1:Int))
  ·rfl
  ·rfl
theorem rnext6 (d:TDoc) (own:Bs):∀(l:List Z7) (s:Sl Bs),s.l.length+l.length<=1000000000->∃nl,Z85_q6 d own l s=some ⟨nl,nxL d l own s.l⟩
 | [],s,_=>⟨s.nl,by rw [Z85_q6]; rfl⟩
 | x::r,s,h=>by
  simp only [List.length_cons] at h;rw [Z85_q6];simp only [on,r10_find];rw [direct_is,Option.bind_some];have e:(dirB x.FType&&(x.FType.FName==own||(fnd d.FDefs.l x.FType.FName).2&&decide ((fnd d.FDefs.l x.FType.FName).1.FKind=5)))=gd d own x:=rfl;rw [e,Z80_is];have e2:(gd d own x&&!(bif gd d own x then s.l.contains x.FType.FName else false))=(gd d own x&&!s.l.contains x.FType.FName):=by cases gd d own x<;>rfl
  rw [e2];have hs:nxL d (x::r) own s.l=nxL d r own (nxS d own s.l x):=rfl;rw [hs];cases hb:gd d own x&&!s.l.contains x.FType.FName
  ·have hn:nxS d own s.l x=s.l:=by unfold nxS; rw [hb]; rfl
   rw [hn];exact rnext6 d own r s (by omega)
  ·have hn:nxS d own s.l x=s.l++[x.FType.FName]:=by unfold nxS; rw [hb]; rfl
   rw [hn,cond_true,appC_ok (by decide) (by simp; omega),Option.bind_some,Option.bind_some];exact rnext6 d own r ⟨_,s.l++[x.FType.FName]⟩ (by simp; omega)
theorem rnext_is (d:TDoc) (t:TDef) (own:Bs) (s:Sl Bs) (h:s.l.length+t.FInputs.l.length<=1000000000):∃nl,Z85 d t own s=some ⟨nl,nxL d t.FInputs.l own s.l⟩:=by
 obtain⟨nl,e⟩:=rnext6 d own t.FInputs.l s h;rw [Z85_eq];unfold Z85_q;rw [e];exact⟨nl,rfl⟩
theorem inp_len {d:TDoc}(hd:∀t∈d.FDefs.l,t.sz<=1048576) (n:Bs):(inp d n).length<=1048576:=by
 unfold inp;rcases fnd_mem d.FDefs.l n with e|e
 ·rw [e]; exact Nat.zero_le _
 ·have h1:=hd _ e;have h2:=(fnd d.FDefs.l n).1.sz_def;have h3:=Sl.len_lt (f:=Z7.sz) (fnd d.FDefs.l n).1.FInputs Z7.pos;omega
open Classical in
theorem rcirc_loop {d:TDoc}(hd:∀t∈d.FDefs.l,t.sz<=1048576) (hl:d.FDefs.l.length<=1048576) (t:TDef):∀(n i:Nat) (s:Sl Bs),Wrk d t.FName t.FInputs.l i s.l->d.FDefs.l.length+2<i+n->Z76_l13 d t n s i=some (decide (Rch d t.FName t.FInputs.l t.FName))
 | 0,i,s,hw,h=>by have:=hw.len; have:=hw.le; omega
 | n+1,i,s,hw,h=>by
  have hlen:=hw.len;rw [Z76_l13];by_cases hi:i<s.l.length
  ·rw [decide_eq_true (by omega:((i:Nat):Int)<((s.l.length:Nat):Int)),cond_true,List.getElem?_eq_getElem hi,Option.bind_some,Z70_eq,Option.bind_some,r10_find];have hin:=inp_len hd s.l[i];obtain⟨nl,e⟩:=rnext_is d (fnd d.FDefs.l s.l[i]).1 t.FName s (by unfold inp at hin; omega);rw [e,Option.bind_some];exact rcirc_loop hd hl t n (i+1) ⟨nl,_⟩ (hw.step hi) (by omega)
  ·rw [decide_eq_false (by omega:¬((i:Nat):Int)<((s.l.length:Nat):Int)),cond_false];unfold Z76_j8;rw [Z80_eq,Option.bind_some,Z80_is,hw.end (by omega)]
open Classical in
theorem rcirc_is {d:TDoc}(hd:∀t∈d.FDefs.l,t.sz<=1048576) (hl:d.FDefs.l.length<=1048576){t:TDef}(ht:t.sz<=1048576):Z76 d t=some (decide (t.FKind=5)&&circ d t):=by
 unfold Z76 circ;cases decide (t.FKind=5)
 ·rfl
 ·have h2:=t.sz_def;have h3:=Sl.len_lt (f:=Z7.sz) t.FInputs Z7.pos;obtain⟨nl,e⟩:=rnext_is d t t.FName (Sl.nil:Sl Bs) (by show 0+_<=_; omega);rw [Bool.not_true,cond_false,e,Option.bind_some,Bool.true_and];exact rcirc_loop hd hl t F0 0 ⟨nl,_⟩ (Wrk.start d t.FName t.FInputs.l) (by rw [F0_eq]; omega)
theorem rempty_is (t:TDef):Z78_q t=emptyX t:=rfl
theorem rwhole_end {d:TDoc}(hd:∀t∈d.FDefs.l,t.sz<=1048576) (hl:d.FDefs.l.length<=1048576){t:TDef}(ht:t.sz<=1048576) (b:Bool):∃nl,Z86_j6 d t b=some ⟨nl,(flS (!okN t.FName) 6 t.FName++flS b 7 t.FName)++(flS (emptyX t) 8 t.FName++(flS (kindX t) 9 t.FName++flS (decide (t.FKind=(5:Int))&&circ d t) 5 t.FName))⟩:=by
 unfold Z86_j6;obtain⟨n1,e1⟩:=names_is t.FName false b t.FName;rw [Z84_eq,e1,Option.bind_some,Z78_eq,Option.bind_some,rempty_is,Bool.false_or];have len:∀b e,(flS b e t.FName).length<=1:=fun b e=>by cases b<;>simp [flS]
 have l1:=len (!okN t.FName) 6; have l2:=len b 7;have h15:∀u:Sl Z4,Z86_j15 u=some u:=fun _=>rfl;have h13:∀u:Sl Z4,u.l.length<=10->∃nl,Z86_j13 d t u=some ⟨nl,u.l++flS (decide (t.FKind=(5:Int))&&circ d t) 5 t.FName⟩:=fun u hu=>by
  unfold Z86_j13;rw [rcirc_is hd hl ht,Option.bind_some];cases decide (t.FKind=(5:Int))&&circ d t
  ·exact⟨u.nl,by simp [flS,h15]⟩
  ·rw [cond_true,app24 (by simp; omega),Option.bind_some,h15]; exact⟨_,rfl⟩
 have h10:∀u:Sl Z4,u.l.length<=8->∃nl,Z86_j10 d t u=some ⟨nl,u.l++(flS (kindX t) 9 t.FName++flS (decide (t.FKind=(5:Int))&&circ d t) 5 t.FName)⟩:=fun u hu=>by
  unfold Z86_j10;have hk:∀c,c=kindX t->∃nl,(bif c then((appC 24 u (⟨false,[(Z4.mk (9:Int) t.FName)]⟩:Sl Z4)).bind fun x24=>Z86_j13 d t x24) else(Z86_j13 d t u))=some ⟨nl,u.l++(flS (kindX t) 9 t.FName++flS (decide (t.FKind=(5:Int))&&circ d t) 5 t.FName)⟩:=by
   intro c hc;rw [<- hc];cases c
   ·obtain⟨nl,e⟩:=h13 u (by omega);exact⟨nl,by rw [cond_false,e]; simp [flS]⟩
   ·obtain⟨nl,e⟩:=h13 ⟨_,u.l++[Z4.mk 9 t.FName]⟩ (by simp; omega);rw [cond_true,app24 (by simp; omega),Option.bind_some,e];exact⟨nl,by simp [flS]⟩
  exact hk _ rfl
 cases emptyX t
 ·obtain⟨nl,e⟩:=h10 ⟨n1,flS (!okN t.FName) 6 t.FName++flS b 7 t.FName⟩ (by simp; omega);exact⟨nl,by rw [cond_false,e]; simp [flS]⟩
 ·obtain⟨nl,e⟩:=h10 ⟨_,(flS (!okN t.FName) 6 t.FName++flS b 7 t.FName)++[Z4.mk 8 t.FName]⟩ (by simp; omega);rw [cond_true,app24 (by simp; omega),Option.bind_some,e];exact⟨nl,by simp [flS]⟩
theorem rwhole30 {d:TDoc}(x:TDef){i:Nat}(hi:i<=d.FDefs.l.length) (hl:d.FDefs.l.length<=1048576):∀(n k:Nat) (b:Bool),k<=i->i<k+n->Z86_l30 d (i:Int) x n b (k:Int)=Z86_j6 d x (b||((d.FDefs.l.drop k).take (i-k)).any fun y=>y.FName==x.FName)
 | 0,k,b,h1,h2=>by omega
 | n+1,k,b,h1,h2=>by
  rw [Z86_l30];by_cases hk:k<i
  ·rw [decide_eq_true (by omega:((k:Nat):Int)<((i:Nat):Int)),cond_true];have hk2:k<d.FDefs.l.length:=by omega
   have hx:idxC d.FDefs.l (k:Int)=some d.FDefs.l[k]:=by unfold idxC; rw [if_pos (by simp),Int.toNat_natCast,List.getElem?_eq_getElem hk2]
   have ha:addC (k:Int) 1=some ((k+1:Nat):Int):=by rw [addC_ok (by omega)]; rfl
   obtain⟨m,hm⟩:∃m,i-k=m+1:=⟨i-k-1,by omega⟩;rw [hx,hm,List.drop_eq_getElem_cons hk2,List.take_succ_cons,List.any_cons];cases b
   ·simp only [guardO,Bool.not_false,if_true,Option.bind_some,Bool.false_or,ha];rw [rwhole30 x hi hl n (k+1) _ (by omega) (by omega),show i-(k+1)=m by omega]
   ·simp only [guardO,Bool.not_true,Bool.false_eq_true,if_false,Option.bind_some,Bool.true_or,ha];rw [rwhole30 x hi hl n (k+1) _ (by omega) (by omega),Bool.true_or]
  ·have:i-k=0:=by omega
   rw [decide_eq_false (by omega:¬((k:Nat):Int)<((i:Nat):Int)),cond_false,this,List.take_zero,List.any_nil,Bool.or_false]
theorem rwhole_is {d:TDoc}(hd:∀t∈d.FDefs.l,t.sz<=1048576) (hl:d.FDefs.l.length<=1048576){t:TDef}{i:Nat}(ht:d.FDefs.l[i]?=some t):∃nl,Z86_q d (i:Int)=some ⟨nl,wholeX d ((d.FDefs.l.take i).map TDef.FName) t⟩:=by
 have hi:=(List.getElem?_eq_some_iff.1 ht).1;have hx:idxC d.FDefs.l (i:Int)=some t:=by unfold idxC; rw [if_pos (by simp),Int.toNat_natCast,ht]
 unfold Z86_q Z86;rw [hx,Option.bind_some,Z74_eq,Option.bind_some,show (0:Int)=((0:Nat):Int) from rfl,rwhole30 t (by omega) hl F0 0 _ (Nat.zero_le _) (by rw [F0_eq]; omega),List.drop_zero,Nat.sub_zero,<- map_any,Bool.or_comm];exact rwhole_end hd hl (hd t (List.mem_of_getElem? ht)) _
theorem rparts {d:TDoc}{t:TDef}(ht:t.sz<=1048576) (u:Sl Z4) (h:u.l.length+(partsX d t).length<=10000000000) :
  ∃nl,(bif (bif (decide (t.FKind=(1:Int))) then((decide (t.FKind=(1:Int)))) else((decide (t.FKind=(2:Int))))) then((Z79_q d t).bind fun x32=>(appC 24 u x32).bind fun x33=>some x33) else(bif (decide (t.FKind=(4:Int))) then((Z83_q t).bind fun x36=>(appC 24 u x36).bind fun x37=>some x37) else(bif (decide (t.FKind=(5:Int))) then((catC t.FName ([46]:Bs)).bind fun x40=>(Z81_q d t.FInputs x40 ([]:Bs)).bind fun x41=>(appC 24 u x41).bind fun x42=>some x42) else(some u))))=some ⟨nl,u.l++partsX d t⟩:=by
 have hs:=t.sz_def;have hn:Bs.sz t.FName=t.FName.length+1:=rfl;have hin:∀{x:Z7},x.sz<=1048576->x.FName.length<=1048576:=fun {x} h=>by have:=x.sz_def; have:Bs.sz x.FName=x.FName.length+1:=rfl; omega
 unfold partsX at h ⊢
 revert h
 cases (bif (decide (t.FKind=(1:Int))) then((decide (t.FKind=(1:Int)))) else((decide (t.FKind=(2:Int)))))
 ·simp only [cond_false];cases decide (t.FKind=(4:Int))
  ·simp only [cond_false];cases decide (t.FKind=(5:Int))
   ·intro h; exact⟨u.nl,by simp⟩
   ·simp only [cond_true];intro h;rw [catC_ok (by simp; omega),Option.bind_some];obtain⟨n1,e1⟩:=rinputs_top (d:=d) t.FInputs (a:=t.FName++[46]) (b:=[]) (by simp; omega) (by simp) (fun x hx=>hin (by have:=Sl.mem_le (f:=Z7.sz) hx; omega)) (by omega);rw [e1,Option.bind_some,app24 (by simp only; omega)]; exact⟨_,rfl⟩
  ·simp only [cond_true];intro h;obtain⟨n1,e1⟩:=rmembers (t:=t) (by omega) t.FMembers.l 0 (Sl.nil:Sl Z4) rfl (fun x hx=>by have:=Sl.mem_le (f:=Z8.sz) hx; have:=x.sz_def; have:Bs.sz x.FName=x.FName.length+1:=rfl; omega) (by show 0+_<=_; simp only [List.take_zero,List.map_nil]; omega);unfold Z83_q;rw [e1];simp only [Option.bind_some,on,Sl.nil,List.nil_append,List.take_zero,List.map_nil];rw [app24 (by simp only; omega)]; exact⟨_,rfl⟩
 ·simp only [cond_true];intro h;obtain⟨n1,e1⟩:=rfields (d:=d) (t:=t) (by omega) t.FFields.l 0 (Sl.nil:Sl Z4) rfl (fun x hx=>by
   have h1:=Sl.mem_le (f:=Z5.sz) hx; have h2:=x.sz_def; have:Bs.sz x.FName=x.FName.length+1:=rfl;exact⟨by omega,fun y hy=>hin (by have:=Sl.mem_le (f:=Z7.sz) hy; omega)⟩) (by show 0+_<=_; simp only [List.take_zero,List.map_nil]; omega)
  unfold Z79_q;rw [e1];simp only [Option.bind_some,on,Sl.nil,List.nil_append,List.take_zero,List.map_nil];rw [app24 (by simp only; omega)]; exact⟨_,rfl⟩
theorem rcheck14 {d:TDoc}(hd:∀t∈d.FDefs.l,t.sz<=1048576) (hl:d.FDefs.l.length<=1048576):∀(l:List TDef) (i:Nat) (s:Sl Z4),d.FDefs.l.drop i=l->s.l.length+(defsS d ((d.FDefs.l.take i).map TDef.FName) l).length<=10000000000->∃nl,Z68_q14 d l i s=some ⟨nl,s.l++defsS d ((d.FDefs.l.take i).map TDef.FName) l⟩
 | [],i,s,_,_=>⟨s.nl,by rw [Z68_q14]; simp [defsS]⟩
 | t::r,i,s,hdr,h=>by
  obtain⟨t1,t2⟩:=drop_nextS hdr;rw [defsS] at h ⊢;simp only [List.length_append] at h;rw [Z68_q14];simp only [on];obtain⟨n1,e1⟩:=rwhole_is hd hl t2;rw [e1,Option.bind_some,app24 (by simp only; omega),Option.bind_some];obtain⟨n2,e2⟩:=rparts (d:=d) (hd t (List.mem_of_getElem? t2)) ⟨s.nl&&(wholeX d ((d.FDefs.l.take i).map TDef.FName) t).isEmpty,s.l++wholeX d ((d.FDefs.l.take i).map TDef.FName) t⟩ (by simp only [List.length_append]; omega)
  rw [e2,Option.bind_some];have ht:(d.FDefs.l.take (i+1)).map TDef.FName=(d.FDefs.l.take i).map TDef.FName++[t.FName]:=by rw [take_next hdr,List.map_append]; rfl
  obtain⟨n3,e3⟩:=rcheck14 hd hl r (i+1) ⟨n2,(s.l++wholeX d ((d.FDefs.l.take i).map TDef.FName) t)++partsX d t⟩ t1 (by rw [ht]; simp only [List.length_append]; omega);rw [e3,ht];exact⟨n3,by simp only [List.append_assoc]⟩
theorem rcheck_is {d:TDoc}(hd:∀t∈d.FDefs.l,t.sz<=1048576) (hl:d.FDefs.l.length<=1048576) (b:Bool) (h:(checkX d b).length<=9000000):∃nl,Z68_q d b=some ⟨nl,checkX d b⟩:=by
 unfold checkX at h ⊢;simp only [List.length_append] at h;obtain⟨n1,e1⟩:=rcheck14 hd hl d.FDefs.l 0 (Sl.nil:Sl Z4) rfl (by show 0+_<=_; simp only [List.take_zero,List.map_nil]; omega);unfold Z68_q;rw [e1];simp only [Option.bind_some,on,r10_find,Sl.nil,List.nil_append,List.take_zero,List.map_nil];obtain⟨n2,e2⟩:=fl_app ⟨n1,defsS d [] d.FDefs.l⟩ (b&&!(fnd d.FDefs.l ([81,117,101,114,121]:Bs)).2) 30 ([81,117,101,114,121]:Bs) (by simp only; omega)
 rw [e2];exact⟨n2,rfl⟩
end Go.Proofs

namespace Go.Proofs
open Go Go.Ab
theorem indexAux (s:Bs) (l:List Bs):∀n:Nat,(l.contains s=false->Z136_q6 s l n=Sum.inl ())/\(l.contains s=true->∃m:Nat,Z136_q6 s l n=Sum.inr (m:Int)):=by
 induction l with
 | nil=>intro n; exact⟨fun _=>rfl,fun h=>by simp at h⟩
 | cons a r ih =>
  intro n;rw [Z136_q6];simp only [Ab.on,List.contains_cons];cases s==a
  ·simp only [Bool.false_or,cond_false]; exact ih (n+1)
  ·simp only [Bool.true_or,cond_true]; exact⟨fun h=>by simp at h,fun _=>⟨n,rfl⟩⟩
theorem containsV (a:Sl Bs) (s:Bs):Z133_q a s=a.l.contains s:=by
 unfold Z133_q Z136_q;simp only [Ab.on];have h:=indexAux s a.l 0;cases hc:a.l.contains s
 ·rw [h.1 hc]; rfl
 ·obtain⟨m,e⟩:=h.2 hc;rw [e]; exact decide_eq_true (by simp)
theorem equalAux (a1:Sl Int):∀(l:List Int) (s:Nat),l.length+s=a1.l.length->Z134_q12 a1 l s=some (if l=a1.l.drop s then Sum.inl () else Sum.inr false)
 | [],s,h=>by
  rw [Z134_q12,if_pos];rw [List.drop_eq_nil_of_le]; simp at h; omega
 | x::r,s,h=>by
  simp only [List.length_cons] at h;have hs:s<a1.l.length:=by omega
  have hg:=List.getElem?_eq_getElem hs;rw [Z134_q12];simp only [Ab.on];rw [hg,Option.bind_some,equalAux a1 r (s+1) (by omega),Q.drop_of hg];generalize a1.l[s]=y;generalize a1.l.drop (s+1)=t;by_cases e:x=y
  ·subst e; simp only [decide_true,Bool.not_true,cond_false,List.cons.injEq,true_and]
  ·simp [e]
theorem equal_eq (a b:Sl Int):Z134_q a b=some (decide (a.l=b.l)):=by
 unfold Z134_q;by_cases h:a.l.length=b.l.length
 ·rw [show decide ((a.l.length:Int)=(b.l.length:Int))=true from decide_eq_true (by omega)];simp only [Bool.not_true,cond_false];rw [equalAux b a.l 0 (by omega),List.drop_zero];by_cases e:a.l=b.l<;>simp [e,Ab.on]
 ·rw [show decide ((a.l.length:Int)=(b.l.length:Int))=false from decide_eq_false (by omega)];have:a.l≠b.l:=fun e=>h (by rw [e]);simp [this]
theorem sameAux (a1:Sl Int):∀(l:List Int) (s:Nat),Z59_q11 a1 l s=Z134_q12 a1 l s
 | [],s=>rfl
 | x::r,s=>by rw [Z59_q11,Z134_q12]; simp only [Ab.on,sameAux a1 r]
theorem Z59_eq' (a b:Sl Int):Z59_q a b=some (decide (a.l=b.l)):=by
 rw [<- equal_eq]; unfold Z59_q Z134_q; rw [sameAux]; all_goals rfl
theorem r05_isNonNull_eq (t:TRef):Z54_q t=nnW t.FWraps.l:=isNonNull_eq t
theorem Z58_is {t:TRef}(h:t.FWraps.l.length<=1048576) (h1:1<=t.FWraps.l.length):Z58_q t=some ⟨t.FName,⟨false,t.FWraps.l.drop 1⟩⟩:=by
 unfold Z58_q;rw [partC_tail h1,Option.bind_some,appC_ok (by decide) (by simp; omega)];simp
theorem r05_nullable_eq {t:TRef}(h:t.FWraps.l.length<=1048576):Z55_q t=some ⟨t.FName,⟨false,(barS t.FWraps).l⟩⟩:=by
 unfold Z55_q barS;simp only [Ab.on,r05_isNonNull_eq];cases hn:nnW t.FWraps.l
 ·simp only [cond_false];rw [appC_ok (by decide) (by simp; omega)];simp
 ·simp only [cond_true];rw [Z58_is h (head_one hn)]; rfl
theorem barS_len (s:Sl Int):(barS s).l.length<=s.l.length:=by unfold barS; cases nnW s.l<;>simp
theorem r05_isList_eq {t:TRef}(h:t.FWraps.l.length<=1048576):Z53_q t=some (liW (barS t.FWraps).l):=by
 unfold Z53_q;rw [r05_nullable_eq h];simp only [Option.bind_some,Ab.on,liW];cases (barS t.FWraps).l with
 | nil=>rfl
 | cons a r=>simp; by_cases h:a=2<;>simp [h]
theorem r05_inner_is {t:TRef}(h:t.FWraps.l.length<=1048576):Z52_q t=some (bif liW (barS t.FWraps).l then(⟨t.FName,⟨false,(barS t.FWraps).l.drop 1⟩⟩,true) else(⟨[],Sl.nil⟩,false)):=by
 unfold Z52_q;rw [r05_isList_eq h];simp only [Option.bind_some];cases hl:liW (barS t.FWraps).l with
 | false=>rfl
 | true =>
  simp only [Bool.not_true,cond_false,cond_true];rw [r05_nullable_eq h,Option.bind_some,Z58_is (by have:=barS_len t.FWraps; simp only; omega) (list_one hl)];rfl
theorem filtO_told {f:Bs->Option Bool}:∀{l:List Bs},(∀s∈l,∃b,f s=some b)->∃r,filtO f l=some r
 | [],_=>⟨_,rfl⟩
 | s::l,h=>by
  obtain⟨b,e⟩:=h s (.head _);obtain⟨r,e2⟩:=filtO_told (l:=l) fun x hx=>h x (.tail _ hx);exact⟨_,by rw [filtO,e,Option.bind_some,e2]; rfl⟩
theorem bar_lt {t:TRef}(h:nnW t.FWraps.l=true):(bar t).FWraps.l.length<t.FWraps.l.length:=by
 have:=head_one h;simp only [bar,barS,h,cond_true,List.length_drop]; omega
end Go.Proofs

namespace Go.Proofs
open Go Go.Ab
def posB (d:TDoc) (a n:Bs):Bool :=
 (fnd d.FDefs.l n).2&&(decide ((fnd d.FDefs.l n).1.FKind=1)&&((decide ((fnd d.FDefs.l a).1.FKind=1)&&n==a)||((decide ((fnd d.FDefs.l a).1.FKind=2)&&(fnd d.FDefs.l n).1.FImplements.l.contains a)||(decide ((fnd d.FDefs.l a).1.FKind=3)&&(fnd d.FDefs.l a).1.FMembers.l.any fun y=>y.FName==n))))
def keepS (d:TDoc) (a:Bs) (x:TDef×Bool) (s:Bs):Bool:=(fnd d.FDefs.l s).2&&(decide ((fnd d.FDefs.l s).1.FKind=1)&&(!decide (x.1.FKind=2)||(fnd d.FDefs.l s).1.FImplements.l.contains a))
theorem implements_is (t:TDef) (a:Bs):Z20_q t a=t.FImplements.l.contains a:=containsV _ _
theorem keep_is (d:TDoc) (a:Bs) (x:TDef×Bool) (s:Bs):Z14_k36 d a x s=some (keepS d a x s):=by
 unfold Z14_k36 keepS;rw [Z114_eq,Option.bind_some];simp only [find_eq,Z20_eq,implements_is];cases (fnd d.FDefs.l s).2<;>cases decide ((fnd d.FDefs.l s).1.FKind=(1:Int))<;>cases decide (x.1.FKind=(2:Int))<;>cases (fnd d.FDefs.l s).1.FImplements.l.contains a<;>rfl
theorem outS (d:TDoc) (h:d.FDefs.l.length<=1048576):∀(n:Nat) (o:Sl Bs) (s:Nat) (l:List Bs),s<=d.FDefs.l.length->d.FDefs.l.length<s+n->o.l.length+(d.FDefs.l.length-s)<=2097152 ->
  ∃r,Z14_l17 d n o s l=some r/\∀z,z∈r.l↔z∈o.l\/z∈l/\z∈(d.FDefs.l.drop s).map TDef.FName
 | 0,_,_,_,h1,h2,_=>by omega
 | n+1,o,s,l,h1,h2,h3=>by
  rw [Z14_l17];by_cases hs:s<d.FDefs.l.length
  ·rw [show decide (((s:Nat):Int)<((d.FDefs.l.length:Nat):Int))=true from decide_eq_true (by omega),cond_true,List.getElem?_eq_getElem hs,Option.bind_some];unfold Z14_j24;have hdr:(d.FDefs.l.drop s).map TDef.FName=d.FDefs.l[s].FName::(d.FDefs.l.drop (s+1)).map TDef.FName:=by rw [List.drop_eq_getElem_cons hs]; rfl
   cases hc:l.contains d.FDefs.l[s].FName
   ·obtain⟨r,e,hr⟩:=outS d h n o (s+1) l (by omega) (by omega) (by omega);rw [cond_false];refine⟨r,e,fun z=>?_⟩;rw [hr z,hdr,List.mem_cons];have hn:d.FDefs.l[s].FName∉l:=by simpa using hc
    constructor
    ·rintro (h1|⟨h1,h2⟩)
     ·exact .inl h1
     ·exact .inr ⟨h1,.inr h2⟩
    ·rintro (h1|⟨h1,h2|h2⟩)
     ·exact .inl h1
     ·rw [h2] at h1; exact absurd h1 hn
     ·exact .inr ⟨h1,h2⟩
   ·have hm:d.FDefs.l[s].FName∈l:=by simpa using hc
    rw [cond_true,appC_ok (by decide) (by simp; omega),Option.bind_some];obtain⟨r,e,hr⟩:=outS d h n ⟨_,o.l++[d.FDefs.l[s].FName]⟩ (s+1) (List.erase l d.FDefs.l[s].FName) (by omega) (by omega) (by simp; omega);refine⟨r,e,fun z=>?_⟩;rw [hr z,hdr,List.mem_cons];simp only [List.mem_append,List.mem_singleton];by_cases hz:z=d.FDefs.l[s].FName
    ·subst hz;exact⟨fun _=>.inr ⟨hm,.inl rfl⟩,fun _=>.inl (.inr rfl)⟩
    ·rw [List.mem_erase_of_ne hz];constructor
     ·rintro ((h1|h1)|⟨h1,h2⟩)
      ·exact .inl h1
      ·exact absurd h1 hz
      ·exact .inr ⟨h1,.inr h2⟩
     ·rintro (h1|⟨h1,h2|h2⟩)
      ·exact .inl (.inl h1)
      ·exact absurd h2 hz
      ·exact .inr ⟨h1,h2⟩
  ·rw [show decide (((s:Nat):Int)<((d.FDefs.l.length:Nat):Int))=false from decide_eq_false (by omega),cond_false];refine⟨o,rfl,fun z=>?_⟩;rw [List.drop_of_length_le (by omega)];simp
theorem j6S (d:TDoc) (h:d.FDefs.l.length<=1048576) (a:Bs) (x:TDef×Bool) (l:List Bs):∃r,Z14_j6 d a x l=some r/\∀z,z∈r.l↔z∈l/\keepS d a x z=true:=by
 unfold Z14_j6;obtain⟨r,e⟩:=filtO_told (l:=l) (f:=Z14_k36 d a x) fun s _=>⟨_,keep_is d a x s⟩;obtain⟨_,hr⟩:=filtO_some e;rw [e,Option.bind_some];unfold Z14_j8;obtain⟨r2,e2,h2⟩:=outS d h (d.FDefs.l.length+1) (Sl.nil:Sl Bs) 0 r (Nat.zero_le _) (by omega) (by show 0+_<=_; omega);refine⟨r2,e2,fun z=>?_⟩;rw [h2 z,List.drop_zero,hr,List.mem_filter,keep_is];have e3:(some (keepS d a x z)==some true)=keepS d a x z:=by cases keepS d a x z<;>rfl
 rw [e3];constructor
 ·rintro (h1|⟨h1,_⟩)
  ·cases h1
  ·exact h1
 ·intro h1;refine .inr ⟨h1, ?_⟩;have hk:=h1.2;unfold keepS at hk;rw [Bool.and_eq_true] at hk;exact fnd_in hk.1
theorem facesS (d:TDoc) (h:d.FDefs.l.length<=1048576) (a:Bs) (x:TDef×Bool):∀(n s:Nat) (l:List Bs),s<=d.FDefs.l.length->d.FDefs.l.length<s+n ->
  ∃r,Z14_l50 d a x n s l=some r/\∀z,z∈r.l↔(z∈l\/∃y∈d.FDefs.l.drop s,y.FImplements.l.contains a=true/\y.FName=z)/\keepS d a x z=true
 | 0,_,_,h1,h2=>by omega
 | n+1,s,l,h1,h2=>by
  rw [Z14_l50];by_cases hs:s<d.FDefs.l.length
  ·rw [show decide (((s:Nat):Int)<((d.FDefs.l.length:Nat):Int))=true from decide_eq_true (by omega),cond_true,List.getElem?_eq_getElem hs,Option.bind_some,Z20_eq,Option.bind_some,implements_is];unfold Z14_j56;rw [List.drop_eq_getElem_cons hs];cases hc:d.FDefs.l[s].FImplements.l.contains a
   ·obtain⟨r,e,hr⟩:=facesS d h a x n (s+1) l (by omega) (by omega);rw [cond_false];refine⟨r,e,fun z=>?_⟩;rw [hr z];simp only [List.mem_cons,exists_eq_or_imp,hc,Bool.false_eq_true,false_and,false_or]
   ·obtain⟨r,e,hr⟩:=facesS d h a x n (s+1) (insS l d.FDefs.l[s].FName) (by omega) (by omega);rw [cond_true];refine⟨r,e,fun z=>?_⟩;rw [hr z,insS_iff];simp only [List.mem_cons,exists_eq_or_imp,hc,true_and];rw [or_assoc,eq_comm (a:=z)]
  ·rw [show decide (((s:Nat):Int)<((d.FDefs.l.length:Nat):Int))=false from decide_eq_false (by omega),cond_false];obtain⟨r,e,hr⟩:=j6S d h a x l;refine⟨r,e,fun z=>?_⟩;rw [hr z,List.drop_of_length_le (by omega)];simp
theorem unionS (d:TDoc) (h:d.FDefs.l.length<=1048576) (a:Bs) (x:TDef×Bool):∀(n s:Nat) (l:List Bs),s<=x.1.FMembers.l.length->x.1.FMembers.l.length<s+n ->
  ∃r,Z14_l67 d a x n s l=some r/\∀z,z∈r.l↔(z∈l\/∃y∈x.1.FMembers.l.drop s,y.FName=z)/\keepS d a x z=true
 | 0,_,_,h1,h2=>by omega
 | n+1,s,l,h1,h2=>by
  rw [Z14_l67];by_cases hs:s<x.1.FMembers.l.length
  ·rw [show decide (((s:Nat):Int)<((x.1.FMembers.l.length:Nat):Int))=true from decide_eq_true (by omega),cond_true,List.getElem?_eq_getElem hs,Option.bind_some,List.drop_eq_getElem_cons hs];obtain⟨r,e,hr⟩:=unionS d h a x n (s+1) (insS l x.1.FMembers.l[s].FName) (by omega) (by omega);refine⟨r,e,fun z=>?_⟩;rw [hr z,insS_iff];simp only [List.mem_cons,exists_eq_or_imp];rw [or_assoc,eq_comm (a:=z)]
  ·rw [show decide (((s:Nat):Int)<((x.1.FMembers.l.length:Nat):Int))=false from decide_eq_false (by omega),cond_false];obtain⟨r,e,hr⟩:=j6S d h a x l;refine⟨r,e,fun z=>?_⟩;rw [hr z,List.drop_of_length_le (by omega)];simp
theorem possS {d:TDoc}(h:d.FDefs.l.length<=1048576) (a:Bs):∃r,Z14_q d a=some r/\∀z,z∈r.l↔posB d a z=true:=by
 unfold Z14_q Z14;rw [Z114_eq,Option.bind_some,find_eq];by_cases h1:(fnd d.FDefs.l a).1.FKind=1
 ·obtain⟨r,e,hr⟩:=j6S d h a (fnd d.FDefs.l a) (insS [] a);rw [decide_eq_true h1,cond_true];refine⟨r,e,fun z=>?_⟩;rw [hr z,insS_iff];unfold keepS posB;rw [h1];simp;constructor
  ·rintro ⟨rfl,h2,h3⟩; exact⟨h2,h3,rfl⟩
  ·rintro ⟨h2,h3,rfl⟩; exact⟨rfl,h2,h3⟩
 ·rw [decide_eq_false h1,cond_false];by_cases h2:(fnd d.FDefs.l a).1.FKind=2
  ·obtain⟨r,e,hr⟩:=facesS d h a (fnd d.FDefs.l a) (d.FDefs.l.length+1) 0 [] (Nat.zero_le _) (by omega);rw [decide_eq_true h2,cond_true];refine⟨r,e,fun z=>?_⟩;rw [hr z];unfold keepS posB;rw [h2];simp;intro h3 h4 h5;rcases fnd_mem d.FDefs.l z with e1|e1
   ·rw [e1] at h4; cases h4
   ·exact⟨_,e1,h5,fnd_name h3⟩
  ·rw [decide_eq_false h2,cond_false];by_cases h3:(fnd d.FDefs.l a).1.FKind=3
   ·obtain⟨r,e,hr⟩:=unionS d h a (fnd d.FDefs.l a) ((fnd d.FDefs.l a).1.FMembers.l.length+1) 0 [] (Nat.zero_le _) (by omega);rw [decide_eq_true h3,cond_true];refine⟨r,e,fun z=>?_⟩;rw [hr z];unfold keepS posB;rw [h3];simp;constructor
    ·rintro ⟨h4,h5,h6⟩; exact⟨h5,h6,h4⟩
    ·rintro ⟨h5,h6,h4⟩; exact⟨h4,h5,h6⟩
   ·obtain⟨r,e,hr⟩:=j6S d h a (fnd d.FDefs.l a) [];rw [decide_eq_false h3,cond_false];refine⟨r,e,fun z=>?_⟩;rw [hr z];unfold posB;rw [decide_eq_false h1,decide_eq_false h2,decide_eq_false h3];simp
end Go.Proofs

namespace Go.Proofs
open Go Go.Ab
theorem r11_has5 (n:Bs):∀l:List Bs,(match Z93_q5 n l with|.inl _=>false|.inr e=>e)=l.contains n
 | []=>rfl
 | a::r=>by
  rw [Z93_q5,List.contains_cons,<- r11_has5 n r,BEq.comm];simp only [on];cases a==n<;>rfl
theorem Z93_is (s:Sl Bs) (n:Bs):Z93_q s n=s.l.contains n:=by
 rw [<- r11_has5];unfold Z93_q;simp only [on];cases Z93_q5 n s.l<;>rfl
theorem r11_mem5 (n:Bs):∀l:List Z8,(match Z95_q5 n l with|.inl _=>false|.inr e=>e)=l.any fun y=>y.FName==n
 | []=>rfl
 | a::r=>by
  rw [Z95_q5,List.any_cons,<- r11_mem5 n r];simp only [on];cases a.FName==n<;>rfl
theorem r11_mem_is (t:TDef) (n:Bs):Z95_q t n=t.FMembers.l.any fun y=>y.FName==n:=by
 rw [<- r11_mem5];unfold Z95_q;simp only [on];cases Z95_q5 n t.FMembers.l<;>rfl
theorem rfirst5 (d:TDoc){i:Nat}(hi:i<d.FDefs.l.length) (hl:d.FDefs.l.length<=1048576):∀(n k:Nat),k<=i->i<k+n->Z92_l5 d (i:Int) n (k:Int)=some (!((d.FDefs.l.drop k).take (i-k)).any fun y=>y.FName==d.FDefs.l[i].FName)
 | 0,k,h1,h2=>by omega
 | n+1,k,h1,h2=>by
  rw [Z92_l5];by_cases hk:k<i
  ·have hk2:k<d.FDefs.l.length:=by omega
   have hx:idxC d.FDefs.l (k:Int)=some d.FDefs.l[k]:=by unfold idxC; rw [if_pos (by simp),Int.toNat_natCast,List.getElem?_eq_getElem hk2]
   have hx2:idxC d.FDefs.l (i:Int)=some d.FDefs.l[i]:=by unfold idxC; rw [if_pos (by simp),Int.toNat_natCast,List.getElem?_eq_getElem hi]
   have ha:addC (k:Int) 1=some ((k+1:Nat):Int):=by rw [addC_ok (by omega)]; rfl
   obtain⟨m,hm⟩:∃m,i-k=m+1:=⟨i-k-1,by omega⟩;rw [decide_eq_true (by omega:((k:Nat):Int)<((i:Nat):Int)),cond_true,hx,Option.bind_some,hx2,Option.bind_some,hm,List.drop_eq_getElem_cons hk2,List.take_succ_cons,List.any_cons];cases d.FDefs.l[k].FName==d.FDefs.l[i].FName
   ·rw [cond_false,ha,Option.bind_some,rfirst5 d hi hl n (k+1) (by omega) (by omega),show i-(k+1)=m by omega,Bool.false_or]
   ·rfl
  ·have:i-k=0:=by omega
   rw [decide_eq_false (by omega:¬((k:Nat):Int)<((i:Nat):Int)),cond_false,this,List.take_zero,List.any_nil];rfl
theorem rfirst_is (d:TDoc){i:Nat}(hi:i<d.FDefs.l.length) (hl:d.FDefs.l.length<=1048576):Z92_q d (i:Int)=some (!(d.FDefs.l.take i).any fun y=>y.FName==d.FDefs.l[i].FName):=by
 unfold Z92_q Z92;rw [show (0:Int)=((0:Nat):Int) from rfl,rfirst5 d hi hl F0 0 (Nat.zero_le _) (by rw [F0_eq]; omega),List.drop_zero,Nat.sub_zero]
def condS (a:Bs) (x o:TDef):Bool:=(decide (x.FKind=1)&&o.FName==a)||((decide (x.FKind=2)&&o.FImplements.l.contains a)||(decide (x.FKind=3)&&x.FMembers.l.any fun y=>y.FName==o.FName))
theorem rposs9 {d:TDoc}(hl:d.FDefs.l.length<=1048576) (a:Bs) (x:TDef×Bool) (hx:x.2=true):∀(l:List TDef) (i:Nat) (s:Sl Bs),d.FDefs.l.drop i=l->s.l.length+l.length<=2097152 ->
  ∃r,Z89_q9 d a x l i s=some r/\∀z,z∈r.l↔z∈s.l\/∃(j:Nat) (h:j<d.FDefs.l.length),i<=j/\d.FDefs.l[j].FKind=1/\((d.FDefs.l.take j).any fun y=>y.FName==d.FDefs.l[j].FName)=false/\condS a x.1 d.FDefs.l[j]=true/\d.FDefs.l[j].FName=z
 | [],i,s,hd,_=>by
  refine⟨s,by rw [Z89_q9],fun z=>⟨.inl, ?_⟩⟩;rintro (h|⟨j,h,h1,_⟩)
  ·exact h
  ·have:=List.drop_eq_nil_iff.1 hd; omega
 | o::r,i,s,hd,hb=>by
  simp only [List.length_cons] at hb;obtain⟨hd2,ho⟩:=drop_nextS hd;obtain⟨hi,ho⟩:=List.getElem?_eq_some_iff.1 ho
  -- what is left when this one does not count
  have skip:(¬(o.FKind=1/\((d.FDefs.l.take i).any fun y=>y.FName==o.FName)=false/\condS a x.1 o=true))->∃q,Z89_q9 d a x r (i+1) s=some q/\∀z,z∈q.l↔z∈s.l\/∃(j:Nat) (h:j<d.FDefs.l.length),i<=j/\d.FDefs.l[j].FKind=1/\((d.FDefs.l.take j).any fun y=>y.FName==d.FDefs.l[j].FName)=false/\condS a x.1 d.FDefs.l[j]=true/\d.FDefs.l[j].FName=z:=fun hno=>by
   obtain⟨q,e,hq⟩:=rposs9 hl a x hx r (i+1) s hd2 (by omega);refine⟨q,e,fun z=>?_⟩;rw [hq z];constructor
   ·rintro (h|⟨j,h,h1,h2⟩)
    ·exact .inl h
    ·exact .inr ⟨j,h,by omega,h2⟩
   ·rintro (h|⟨j,h,h1,h2,h3,h4,h5⟩)
    ·exact .inl h
    ·by_cases hij:i=j
     ·subst hij;rw [ho] at h2 h3 h4;exact absurd ⟨h2,h3,h4⟩ hno
     ·exact .inr ⟨j,h,by omega,h2,h3,h4,h5⟩
  have more:o.FKind=1->((d.FDefs.l.take i).any fun y=>y.FName==o.FName)=false->condS a x.1 o=true->∃q,Z89_q9 d a x r (i+1) ⟨s.nl&&List.isEmpty [o.FName],s.l++[o.FName]⟩=some q/\∀z,z∈q.l↔z∈s.l\/∃(j:Nat) (h:j<d.FDefs.l.length),i<=j/\d.FDefs.l[j].FKind=1/\((d.FDefs.l.take j).any fun y=>y.FName==d.FDefs.l[j].FName)=false/\condS a x.1 d.FDefs.l[j]=true/\d.FDefs.l[j].FName=z:=fun k1 k2 k3=>by
   obtain⟨q,e,hq⟩:=rposs9 hl a x hx r (i+1) ⟨s.nl&&List.isEmpty [o.FName],s.l++[o.FName]⟩ hd2 (by simp; omega);refine⟨q,e,fun z=>?_⟩;rw [hq z];simp only [List.mem_append,List.mem_singleton];constructor
   ·rintro ((h|h)|⟨j,h,h1,h2⟩)
    ·exact .inl h
    ·exact .inr ⟨i,hi,Nat.le_refl _,by rw [ho]; exact k1,by rw [ho]; exact k2,by rw [ho]; exact k3,by rw [ho]; exact h.symm⟩
    ·exact .inr ⟨j,h,by omega,h2⟩
   ·rintro (h|⟨j,h,h1,h2,h3,h4,h5⟩)
    ·exact .inl (.inl h)
    ·by_cases hij:i=j
     ·subst hij;rw [ho] at h5;exact .inl (.inr h5.symm)
     ·exact .inr ⟨j,h,by omega,h2,h3,h4,h5⟩
  rw [Z89_q9,hx,cond_true];simp only [on];have hfst:=rfirst_is d hi hl;rw [ho] at hfst;by_cases hk:o.FKind=1
  ·rw [decide_eq_true hk,hfst];simp only [Bool.not_true,Bool.not_false,guardO,if_true,Option.bind_some,Bool.false_or];cases hf:(d.FDefs.l.take i).any fun y=>y.FName==o.FName
   ·simp only [Bool.not_false,Bool.not_true,cond_false];have ec:(((decide (x.1.FKind=(1:Int)))&&((o.FName==a)))||((decide (x.1.FKind=(2:Int)))&&(bif (!((decide (x.1.FKind=(1:Int)))&&((o.FName==a)))&&(decide (x.1.FKind=(2:Int)))) then Z93_q o.FImplements a else false))||((decide (x.1.FKind=(3:Int)))&&(bif (!(((decide (x.1.FKind=(1:Int)))&&((o.FName==a)))||((decide (x.1.FKind=(2:Int)))&&(bif (!((decide (x.1.FKind=(1:Int)))&&((o.FName==a)))&&(decide (x.1.FKind=(2:Int)))) then Z93_q o.FImplements a else false)))&&(decide (x.1.FKind=(3:Int)))) then Z95_q x.1 o.FName else false)))=condS a x.1 o:=by
     unfold condS;rw [Z93_is,r11_mem_is];cases decide (x.1.FKind=(1:Int))<;>cases (o.FName==a)<;>cases decide (x.1.FKind=(2:Int))<;>cases decide (x.1.FKind=(3:Int))<;>cases o.FImplements.l.contains a<;>rfl
    rw [ec];cases hc:condS a x.1 o
    ·rw [cond_false,Option.bind_some];exact skip fun h=>by rw [hc] at h; exact absurd h.2.2 (by simp)
    ·rw [cond_true,appC_ok (by decide) (by simp; omega),Option.bind_some,Option.bind_some];exact more hk hf hc
   ·simp only [Bool.not_true,cond_true,Bool.not_false,Option.bind_some];exact skip fun h=>by rw [hf] at h; exact absurd h.2.1 (by simp)
  ·rw [decide_eq_false hk];simp only [Bool.not_false,Bool.not_true,guardO,Bool.false_eq_true,if_false,Bool.true_or,cond_true,Option.bind_some];exact skip fun h=>hk h.1
theorem fnd_at {l:List TDef}{j:Nat}(h:j<l.length) (hf:((l.take j).any fun y=>y.FName==l[j].FName)=false):fnd l l[j].FName=(l[j],true):=by
 have:l.find? (fun t=>t.FName==l[j].FName)=some l[j]:=by
  rw [List.find?_eq_some_iff_getElem];refine⟨by simp,j,h,rfl,fun k hk=>?_⟩;rw [List.any_eq_false] at hf;have h2:k<(l.take j).length:=by simp; omega
  have:=hf (l.take j)[k] (List.getElem_mem h2);rw [List.getElem_take] at this
  simpa using this
 unfold fnd;rw [this]
theorem fnd_pos {l:List TDef}{z:Bs}(h:(fnd l z).2=true):∃(j:Nat) (hj:j<l.length),l[j]=(fnd l z).1/\((l.take j).any fun y=>y.FName==l[j].FName)=false:=by
 have hn:=fnd_name h;unfold fnd at h hn ⊢;cases e:l.find? (fun t=>t.FName==z) with
 | none=>rw [e] at h; cases h
 | some t =>
  rw [e] at hn;obtain⟨_,j,hj,h1,h2⟩:=List.find?_eq_some_iff_getElem.1 e;refine⟨j,hj,h1, ?_⟩;rw [List.any_eq_false];intro y hy;obtain⟨k,hk,rfl⟩:=List.getElem_of_mem hy;have hk2:k<j:=by simp at hk; omega
  rw [List.getElem_take,h1];have hn:t.FName=z:=hn;rw [hn]
  simpa using h2 k hk2
theorem rpossS {d:TDoc}(hl:d.FDefs.l.length<=1048576) (a:Bs):∃r,Z89_q d a=some r/\∀z,z∈r.l↔posB d a z=true:=by
 unfold Z89_q;simp only [on,r10_find];cases hf:(fnd d.FDefs.l a).2
 ·have h0:∀(l:List TDef) (i:Nat) (s:Sl Bs),Z89_q9 d a (fnd d.FDefs.l a) l i s=some s:=fun l i s=>by
   cases l with
   | nil=>rw [Z89_q9]
   | cons o r=>rw [Z89_q9,hf]; rfl
  rw [h0];refine⟨_,rfl,fun z=>?_⟩;unfold posB;rw [fnd_zero hf];simp [Sl.nil,TDef.zero]
 ·obtain⟨r,e,hr⟩:=rposs9 hl a (fnd d.FDefs.l a) hf d.FDefs.l 0 (Sl.nil:Sl Bs) rfl (by show 0+_<=_; omega);rw [e];refine⟨r,rfl,fun z=>?_⟩;rw [hr z];constructor
  ·rintro (h|⟨j,h,_,h2,h3,h4,h5⟩)
   ·cases h
   ·have hj:=fnd_at h h3;rw [h5] at hj;unfold posB;rw [hj];unfold condS at h4;rw [h5] at h4;simp only [h2,decide_true,Bool.true_and];exact h4
  ·intro h;unfold posB at h;simp only [Bool.and_eq_true,decide_eq_true_eq] at h;obtain⟨h1,h2,h3⟩:=h;obtain⟨j,hj,e1,e2⟩:=fnd_pos h1;refine .inr ⟨j,hj,Nat.zero_le _,by rw [e1]; exact h2,e2, ?_,by rw [e1]; exact fnd_name h1⟩;unfold condS;rw [e1,fnd_name h1];exact h3
theorem is_is {d:TDoc}(hl:d.FDefs.l.length<=1048576) (a b:Bs):Z13_q d a b=some (posB d b a):=by
 obtain⟨r,e,h⟩:=possS hl b;unfold Z13_q;rw [e,Option.bind_some];simp only [on,containsV]
 congr 1
 rw [Bool.eq_iff_iff,List.contains_iff_mem];exact h a
theorem ris_is {d:TDoc}(hl:d.FDefs.l.length<=1048576) (a b:Bs):Z88_q d a b=some (posB d b a):=by
 obtain⟨r,e,h⟩:=rpossS hl b;unfold Z88_q;rw [e,Option.bind_some];simp only [on,Z93_is]
 congr 1
 rw [Bool.eq_iff_iff,List.contains_iff_mem];exact h a
end Go.Proofs

namespace Go.Proofs
open Go Go.Ab
theorem barS_same {s s':Sl Int}(h:s'.l=s.l):(barS s').l=(barS s).l:=by unfold barS; rw [h]; cases nnW s.l<;>simp [h]
theorem sub2 {d:TDoc}(hd:d.FDefs.l.length<=1048576):∀(n m:Nat) (a b a' b':TRef),SOk a.FWraps->SOk b.FWraps->a'.FName=a.FName->a'.FWraps.l=a.FWraps.l->b'.FName=b.FName->b'.FWraps.l=b.FWraps.l->a.FWraps.l.length+b.FWraps.l.length<n->a.FWraps.l.length+b.FWraps.l.length<m ->
  ∃v,Z15_qn n d a b=some v/\Z90_qn m d a' b'=some v
 | 0,_,_,_,_,_,_,_,_,_,_,_,h,_=>by omega
 | _+1,0,_,_,_,_,_,_,_,_,_,_,_,h=>by omega
 | n+1,m+1,a,b,a',b',ha,hb,na,wa,nb,wb,hn,hm=>by
  have la:a'.FWraps.l.length<=1048576:=by rw [wa]; exact ha.2
  have lb:b'.FWraps.l.length<=1048576:=by rw [wb]; exact hb.2
  rw [Z15_qn,Z90_qn];simp only [Ab.on,isNonNull_eq,nullable_eq ha,nullable_eq hb,inner_eq ha,inner_eq hb,r05_isNonNull_eq,r05_nullable_eq la,r05_nullable_eq lb,r05_inner_is la,r05_inner_is lb,Option.bind_some,wa,wb,barS_same wa,barS_same wb,na,nb];cases hbn:nnW b.FWraps.l
  ·simp only [cond_false];cases han:nnW a.FWraps.l
   ·simp only [cond_false];have last:∃v,(guardO (!((a.FName==b.FName))) (Z13_q d a.FName b.FName) false fun x28=>some (((a.FName==b.FName))||x28))=some v/\(guardO (!((a.FName==b.FName))) (Z88_q d a.FName b.FName) false fun x28=>some (((a.FName==b.FName))||x28))=some v:=by
     rw [is_is hd,ris_is hd];cases (a.FName==b.FName)<;>exact⟨_,rfl,rfl⟩
    cases hla:liW (barS a.FWraps).l
    ·cases hlb:liW (barS b.FWraps).l
     ·exact last
     ·exact⟨_,rfl,rfl⟩
    ·cases hlb:liW (barS b.FWraps).l
     ·exact⟨_,rfl,rfl⟩
     ·have h1:=inner_lt hla;have h2:=inner_lt hlb;obtain⟨v,hv,hw⟩:=sub2 hd n m (innerT a) (innerT b) ⟨a.FName,⟨false,(barS a.FWraps).l.drop 1⟩⟩ ⟨b.FName,⟨false,(barS b.FWraps).l.drop 1⟩⟩ (innerT_ok ha) (innerT_ok hb) rfl rfl rfl rfl (by omega) (by omega);simp only [cond_true,Bool.or_self,Bool.and_self,guardO,if_true,hv,hw,Option.bind_some];exact⟨_,by simp,rfl⟩
   ·have h1:=bar_lt han;obtain⟨v,hv,hw⟩:=sub2 hd n m (bar a) b ⟨a.FName,⟨false,(barS a.FWraps).l⟩⟩ b' (barS_ok ha) hb rfl rfl nb wb (by omega) (by omega);simp only [cond_true,hv,hw];exact⟨_,rfl,rfl⟩
  ·simp only [cond_true];cases han:nnW a.FWraps.l
   ·exact⟨_,rfl,rfl⟩
   ·have h1:=bar_lt han;have h2:=bar_lt hbn;obtain⟨v,hv,hw⟩:=sub2 hd n m (bar a) (bar b) ⟨a.FName,⟨false,(barS a.FWraps).l⟩⟩ ⟨b.FName,⟨false,(barS b.FWraps).l⟩⟩ (barS_ok ha) (barS_ok hb) rfl rfl rfl rfl (by omega) (by omega);simp only [guardO,if_true,hv,hw,Option.bind_some];exact⟨_,rfl,rfl⟩
def subV (d:TDoc) (a b:TRef):Bool:=(Z15_q d a b).getD false
theorem sub_is {d:TDoc}(hd:d.FDefs.l.length<=1048576){a b:TRef}(ha:SOk a.FWraps) (hb:SOk b.FWraps):Z15_q d a b=some (subV d a b)/\Z90_q d a b=some (subV d a b):=by
 have h1:=ha.2; have h2:=hb.2;obtain⟨v,hv,hw⟩:=sub2 hd F0 F0 a b a b ha hb rfl rfl rfl rfl (by rw [F0_eq]; omega) (by rw [F0_eq]; omega);have e:subV d a b=v:=by unfold subV Z15_q; rw [hv]; rfl
 rw [e]; exact⟨hv,hw⟩
def sameV (a b:TRef):Bool:=a.FName==b.FName&&decide (a.FWraps.l=b.FWraps.l)
theorem sameV_comm (a b:TRef):sameV a b=sameV b a:=by
 unfold sameV;rw [BEq.comm (a:=a.FName),decide_eq_decide.2 (eq_comm (a:=a.FWraps.l))]
theorem same_q (a b:TRef):Z146_q a b=some (sameV a b):=by
 unfold Z146_q sameV;rw [equal_eq];cases a.FName==b.FName<;>rfl
theorem rsame_q (a b:TRef):Z57_q a b=some (sameV b a):=by
 rw [sameV_comm];unfold Z57_q sameV;rw [Z59_eq'];cases a.FName==b.FName<;>rfl
end Go.Proofs

namespace Go.Proofs
open Go Go.Ab
def namedS (d:TDoc) (n:Bs) (k:Int):Int:=bif !(fnd d.FDefs.l n).2&&!Z119_q n then 8 else bif !(fnd d.FDefs.l n).2||!decide ((fnd d.FDefs.l n).1.FKind=k) then 9 else 0
def argX (p n:Bs) (b:Bool):List Z4:=flS b 22 (p++[40]++n++[41])
def args51 (p:Bs) (y:Z5) (l:List Z7):List Z4:=l.flatMap fun a=>argX p a.FName (!(fndI y.FArgs.l a.FName).2||!sameV a.FType (fndI y.FArgs.l a.FName).1.FType)
def args30 (p:Bs) (x:Z5) (l:List Z7):List Z4:=l.flatMap fun b=>argX p b.FName ((!(fndI x.FArgs.l b.FName).2&&nnW b.FType.FWraps.l)&&!b.FHas)
def fieldX1 (d:TDoc) (t:TDef) (x:Z5):List Z4 :=
 bif !(fndF t.FFields.l x.FName).2 then [Z4.mk 20 (t.FName++[46]++x.FName)] else
  (flS (!subV d (fndF t.FFields.l x.FName).1.FType x.FType) 10 (t.FName++[46]++x.FName)++(args51 (t.FName++[46]++x.FName) (fndF t.FFields.l x.FName).1 x.FArgs.l++args30 (t.FName++[46]++x.FName) x (fndF t.FFields.l x.FName).1.FArgs.l))
def faceX (d:TDoc) (t:TDef) (l:List Z5):List Z4:=l.flatMap (fieldX1 d t)
def errO (d:TDoc) (s:List Bs) (n:Bs) (k:Int):Int:=bif decide (namedS d n k=0)&&s.contains n then 7 else namedS d n k
def objX (d:TDoc) (t:TDef):List Bs->List Bs->List Z4
 | _,[]=>[]
 | s,n::r=>(bif !decide (errO d s n 2=0) then [Z4.mk (errO d s n 2) t.FName] else faceX d t (fnd d.FDefs.l n).1.FFields.l)++objX d t (s++[n]) r
def uniX (d:TDoc) (t:TDef):List Bs->List Z8->List Z4
 | _,[]=>[]
 | s,m::r=>flS (!decide (errO d s m.FName 1=0)) (errO d s m.FName 1) (t.FName++[46]++m.FName)++uniX d t (s++[m.FName]) r
def facesX1 (d:TDoc) (t:TDef):List Z4:=bif decide (t.FKind=1) then objX d t [] t.FImplements.l else bif decide (t.FKind=3) then uniX d t [] t.FMembers.l else []
def facesX (d:TDoc):List Z4:=d.FDefs.l.flatMap (facesX1 d)
def maxF:Nat:=4000000000000
theorem app24F {s r:Sl Z4}(h:s.l.length+r.l.length<=maxF):appC 24 s r=some ⟨s.nl&&r.l.isEmpty,s.l++r.l⟩:=by
 unfold maxF at h;unfold appC; rw [if_pos]; unfold maxN; omega
def FA (o:Option Z0) (c:Z0) (X:List Z4):Prop:=c.Fout.l.length+X.length<=maxF->∃nl,o=some (Z0.mk c.Fd ⟨nl,c.Fout.l++X⟩)
theorem FA.pure (c:Z0):FA (some c) c []:=fun _=>⟨c.Fout.nl,by simp⟩
theorem FA.bind {o:Option Z0}{f:Z0->Option Z0}{c:Z0}{X Y:List Z4}(h:FA o c X) (hf:∀c1,c1.Fd=c.Fd->FA (f c1) c1 Y):FA (o.bind f) c (X++Y):=fun hb=>by
 simp only [List.length_append] at hb;obtain⟨n1,e1⟩:=h (by omega);obtain⟨n2,e2⟩:=hf (Z0.mk c.Fd ⟨n1,c.Fout.l++X⟩) rfl (by simp only [List.length_append]; omega);exact⟨n2,by rw [e1,Option.bind_some,e2]; simp only [List.append_assoc]⟩
theorem FA.id {o:Option Z0}{c:Z0}{X:List Z4}(h:FA o c X):FA (o.bind fun x=>some x) c X:=fun hb=>by
 obtain⟨n1,e1⟩:=h hb; exact⟨n1,by rw [e1]; rfl⟩
theorem fadd_fa (c:Z0) (e:Int) (at_:Bs):FA (Z16_q c e at_) c [Z4.mk e at_]:=fun hb=>by
 unfold Z16_q;rw [app24F (by simpa using hb)];exact⟨_,rfl⟩
theorem more_fa {p n:Bs}(hp:p.length<=10000000) (hn:n.length<=1048576) (c:Z0) (b:Bool):FA (bif b then((catC p ([40]:Bs)).bind fun x66=>(catC x66 n).bind fun x67=>(catC x67 ([41]:Bs)).bind fun x68=>(Z16_q c (22:Int) x68).bind fun x69=>some x69) else some c) c (argX p n b):=by
 cases b
 ·exact FA.pure c
 ·rw [cond_true,catC_ok (by simp; omega),Option.bind_some,catC_ok (by simp; omega),Option.bind_some,catC_ok (by simp; omega),Option.bind_some];exact(fadd_fa c 22 _).id
theorem face51_fa {p:Bs}(hp:p.length<=10000000) (y:Z5×Bool):∀(l:List Z7) (c:Z0),(∀a∈l,a.FName.length<=1048576)->FA (Z17_q51 p y l c) c (args51 p y.1 l)
 | [],c,_=>by rw [Z17_q51]; exact .pure c
 | a::r,c,h=>by
  rw [Z17_q51];simp only [on,inputOf_eq,same_q];have e:args51 p y.1 (a::r)=argX p a.FName (!(fndI y.1.FArgs.l a.FName).2||!sameV a.FType (fndI y.1.FArgs.l a.FName).1.FType)++args51 p y.1 r:=rfl;rw [e];have key:∀v:Bool,(!(fndI y.1.FArgs.l a.FName).2||!v)=(!(fndI y.1.FArgs.l a.FName).2||!sameV a.FType (fndI y.1.FArgs.l a.FName).1.FType)->FA (Option.bind (bif ((!(fndI y.1.FArgs.l a.FName).2)||(!v)) then((catC p ([40]:Bs)).bind fun x66=>(catC x66 a.FName).bind fun x67=>(catC x67 ([41]:Bs)).bind fun x68=>(Z16_q c (22:Int) x68).bind fun x69=>some x69) else(some c)) fun y58_c0=>Z17_q51 p y r y58_c0) c (argX p a.FName (!(fndI y.1.FArgs.l a.FName).2||!sameV a.FType (fndI y.1.FArgs.l a.FName).1.FType)++args51 p y.1 r):=by
   intro v hv;rw [hv];exact FA.bind (more_fa hp (h a (.head _)) c _) fun c1 _=>face51_fa hp y r c1 fun x hx=>h x (.tail _ hx)
  cases hk:(fndI y.1.FArgs.l a.FName).2
  ·rw [hk] at key;exact key false rfl
  ·rw [hk] at key;exact key _ rfl
theorem face30_fa (x:Z5){p:Bs}(hp:p.length<=10000000):∀(l:List Z7) (c:Z0),(∀a∈l,a.FName.length<=1048576)->FA (Z17_q30 x p l c) c (args30 p x l)
 | [],c,_=>by rw [Z17_q30]; exact .pure c
 | a::r,c,h=>by
  rw [Z17_q30];simp only [on,inputOf_eq,isNonNull_eq];have e:args30 p x (a::r)=argX p a.FName ((!(fndI x.FArgs.l a.FName).2&&nnW a.FType.FWraps.l)&&!a.FHas)++args30 p x r:=rfl;have e2:((!(fndI x.FArgs.l a.FName).2)&&(bif (!(fndI x.FArgs.l a.FName).2) then nnW a.FType.FWraps.l else false))=(!(fndI x.FArgs.l a.FName).2&&nnW a.FType.FWraps.l):=by cases (fndI x.FArgs.l a.FName).2<;>rfl
  rw [e,e2];exact FA.bind (more_fa hp (h a (.head _)) c _) fun c1 _=>face30_fa x hp r c1 fun x hx=>h x (.tail _ hx)
theorem fndF_mem (l:List Z5) (s:Bs):(fndF l s).1=Z5.zero\/(fndF l s).1∈l:=by
 unfold fndF;cases h:l.find? (fun t=>t.FName==s) with
 | none=>exact .inl rfl
 | some t=>exact .inr (List.mem_of_find?_eq_some h)
def FieldOk (f:Z5):Prop:=f.FName.length<=1048576/\(∀a∈f.FArgs.l,a.FName.length<=1048576)/\SOk f.FType.FWraps
theorem fieldOk_zero:FieldOk Z5.zero:=⟨Nat.zero_le _,fun _ h=>(by cases h),⟨fun _=>rfl,Nat.zero_le _⟩⟩
theorem fndF_ok {l:List Z5}(h:∀f∈l,FieldOk f) (s:Bs):FieldOk (fndF l s).1:=by
 rcases fndF_mem l s with e|e
 ·rw [e]; exact fieldOk_zero
 ·exact h _ e
theorem face_fa {d:TDoc}(hd:d.FDefs.l.length<=1048576){t:TDef}(ht:t.FName.length<=1048576) (htf:∀f∈t.FFields.l,FieldOk f):∀(l:List Z5) (c:Z0),c.Fd=d->(∀f∈l,FieldOk f)->FA (Z17_q4 t l c) c (faceX d t l)
 | [],c,_,_=>by rw [Z17_q4]; exact .pure c
 | x::r,c,hc,h=>by
  obtain⟨hx1,hx2,hx3⟩:=h x (.head _);obtain⟨hy1,hy2,hy3⟩:=fndF_ok htf x.FName;rw [Z17_q4];simp only [on,fieldOf_eq];rw [catC_ok (by simp; omega),Option.bind_some,catC_ok (by simp; omega),Option.bind_some];have e:faceX d t (x::r)=fieldX1 d t x++faceX d t r:=rfl;rw [e];refine FA.bind ?_ fun c1 h1=>face_fa hd ht htf r c1 (h1.trans hc) fun f hf=>h f (.tail _ hf);unfold fieldX1;cases (fndF t.FFields.l x.FName).2
  ·exact(fadd_fa c 20 _).id
  ·simp only [Bool.not_true,cond_false];rw [hc,(sub_is hd hy3 hx3).1,Option.bind_some];refine FA.bind ?_ fun c1 _=>FA.bind (face51_fa (by simp; omega) _ _ c1 hx2) fun c2 _=>(face30_fa x (by simp; omega) _ c2 hy2).id;cases subV d (fndF t.FFields.l x.FName).1.FType x.FType
   ·exact(fadd_fa c 10 _).id
   ·exact .pure c
theorem named_is (c:Z0) (n:Bs) (k:Int):Z18_q c n k=namedS c.Fd n k:=by
 unfold Z18_q namedS;simp only [on,find_eq];cases (fnd c.Fd.FDefs.l n).2<;>cases Z119_q n<;>rfl
def DefOkV (t:TDef):Prop:=t.FName.length<=1048576/\(∀f∈t.FFields.l,FieldOk f)/\∀m∈t.FMembers.l,m.FName.length<=1048576
theorem defOk_zero:DefOkV TDef.zero:=⟨Nat.zero_le _,fun _ h=>(by cases h),fun _ h=>(by cases h)⟩
theorem fnd_ok {d:TDoc}(h:∀t∈d.FDefs.l,DefOkV t) (s:Bs):DefOkV (fnd d.FDefs.l s).1:=by
 rcases fnd_mem d.FDefs.l s with e|e
 ·rw [e]; exact defOk_zero
 ·exact h _ e
theorem obj_fa {d:TDoc}(hd:d.FDefs.l.length<=1048576) (hk:∀t∈d.FDefs.l,DefOkV t){t:TDef}(ht:DefOkV t):∀(l:List Bs) (i:Nat) (c:Z0),t.FImplements.l.drop i=l->c.Fd=d->FA (Z19_q4 t l i c) c (objX d t (t.FImplements.l.take i) l)
 | [],i,c,_,_=>by rw [Z19_q4]; exact .pure c
 | n::r,i,c,hdr,hc=>by
  rw [Z19_q4,objX];simp only [on,named_is,containsV,find_eq,hc];have e:(bif ((decide (namedS d n 2=(0:Int)))&&(bif (decide (namedS d n 2=(0:Int))) then(bif (decide (namedS d n 2=(0:Int))) then(⟨t.FImplements.nl,t.FImplements.l.take i⟩:Sl Bs) else(Sl.nil:Sl Bs)).l.contains n else false)) then((7:Int)) else(namedS d n 2))=errO d (t.FImplements.l.take i) n 2:=by
   unfold errO;cases decide (namedS d n 2=(0:Int))<;>rfl
  rw [e,<- take_next hdr];refine FA.bind ?_ fun c1 h1=>obj_fa hd hk ht r (i+1) c1 (drop_nextS hdr).1 (h1.trans hc);cases decide (errO d (t.FImplements.l.take i) n 2=0)
  ·exact(fadd_fa c _ _).id
  ·simp only [Bool.not_true,cond_false];refine FA.id ?_;unfold Z17_q;exact(face_fa hd ht.1 ht.2.1 _ c hc (fnd_ok hk n).2.1).id
theorem fany_is (n:Bs):∀(l:List Z8) (i:Nat),(match Z135_q6 (fun y0=>y0.FName==n) l i with|.inl _=>false|.inr e=>decide ((0:Int)<=e))=(l.map Z8.FName).contains n
 | [],i=>rfl
 | a::r,i=>by
  rw [Z135_q6,map_any,List.any_cons,<- map_any,<- fany_is n r (i+1)];simp only [on];cases a.FName==n
  ·rfl
  ·simp
theorem fcontains_is (s:Sl Z8) (n:Bs) (m:Z8) (hm:m.FName=n):Z132_q s (fun y0=>Z12_q y0 m)=(s.l.map Z8.FName).contains n:=by
 rw [<- fany_is n s.l 0];unfold Z132_q Z135_q;have e:(fun y0:Z8=>Z12_q y0 m)=fun y0=>y0.FName==n:=by funext y0; unfold Z12_q; rw [hm]
 rw [e];simp only [on];cases Z135_q6 (fun y0=>y0.FName==n) s.l 0<;>rfl
theorem uni_fa {d:TDoc}{t:TDef}(ht:DefOkV t):∀(l:List Z8) (i:Nat) (c:Z0),t.FMembers.l.drop i=l->c.Fd=d->(∀m∈l,m.FName.length<=1048576)->FA (Z11_q28 t l i c) c (uniX d t ((t.FMembers.l.take i).map Z8.FName) l)
 | [],i,c,_,_,_=>by rw [Z11_q28]; exact .pure c
 | m::r,i,c,hdr,hc,hm=>by
  have h1:=ht.1; have h2:=hm m (.head _);rw [Z11_q28,uniX];simp only [on,named_is,hc,fcontains_is _ m.FName m rfl];have e:(bif ((decide (namedS d m.FName 1=(0:Int)))&&(bif (decide (namedS d m.FName 1=(0:Int))) then((bif (decide (namedS d m.FName 1=(0:Int))) then(⟨t.FMembers.nl,t.FMembers.l.take i⟩:Sl Z8) else(Sl.nil:Sl Z8)).l.map Z8.FName).contains m.FName else false)) then((7:Int)) else(namedS d m.FName 1))=errO d ((t.FMembers.l.take i).map Z8.FName) m.FName 1:=by
   unfold errO;cases decide (namedS d m.FName 1=(0:Int))<;>rfl
  have ht2:(t.FMembers.l.take (i+1)).map Z8.FName=(t.FMembers.l.take i).map Z8.FName++[m.FName]:=by rw [take_next hdr,List.map_append]; rfl
  rw [e,<- ht2];refine FA.bind ?_ fun c1 h3=>uni_fa ht r (i+1) c1 (drop_nextS hdr).1 (h3.trans hc) fun x hx=>hm x (.tail _ hx);cases decide (errO d ((t.FMembers.l.take i).map Z8.FName) m.FName 1=0)
  ·simp only [Bool.not_false,cond_true];rw [catC_ok (by simp; omega),Option.bind_some,catC_ok (by simp; omega),Option.bind_some];exact(fadd_fa c _ _).id
  ·exact .pure c
theorem faces10_fa {d:TDoc}(hd:d.FDefs.l.length<=1048576) (hk:∀t∈d.FDefs.l,DefOkV t):∀(l:List TDef) (c:Z0),(∀t∈l,t∈d.FDefs.l)->c.Fd=d->FA (Z11_q10 l c) c (l.flatMap (facesX1 d))
 | [],c,_,_=>by rw [Z11_q10]; exact .pure c
 | t::r,c,hm,hc=>by
  have ht:=hk t (hm t (.head _));rw [Z11_q10,List.flatMap_cons];simp only [on];refine FA.bind ?_ fun c1 h3=>faces10_fa hd hk r c1 (fun x hx=>hm x (.tail _ hx)) (h3.trans hc);unfold facesX1;cases decide (t.FKind=(1:Int))
  ·simp only [cond_false];cases decide (t.FKind=(3:Int))
   ·exact .pure c
   ·simp only [cond_true];exact(uni_fa ht t.FMembers.l 0 c rfl hc ht.2.2).id
  ·simp only [cond_true];refine FA.id ?_;unfold Z19_q;exact(obj_fa hd hk ht t.FImplements.l 0 c rfl hc).id
theorem faces_is {d:TDoc}(hd:d.FDefs.l.length<=1048576) (hk:∀t∈d.FDefs.l,DefOkV t) (hb:(facesX d).length<=maxF):∃nl,Z11_q d=some ⟨nl,facesX d⟩:=by
 obtain⟨nl,e⟩:=faces10_fa hd hk d.FDefs.l (Z0.mk d (Sl.nil:Sl Z4)) (fun _ h=>h) rfl (by show 0+_<=_; unfold facesX at hb; omega);unfold Z11_q;rw [e];exact⟨nl,rfl⟩
end Go.Proofs

namespace Go.Proofs
open Go Go.Ab
theorem r10_input6f (s:Bs) (l:List Z7):Z71_q6 s l=(match l.find? (fun t=>t.FName==s) with|some t=>Sum.inr (t,true)|none=>Sum.inl ()):=by
 induction l with
 | nil=>rfl
 | cons a r ih =>
  rw [Z71_q6,List.find?_cons];simp only [on,ih];cases a.FName==s<;>rfl
theorem r10_inputF (t:Sl Z7) (s:Bs):Z71_q t s=fndI t.l s:=by
 unfold Z71_q fndI on;rw [r10_input6f];cases t.l.find? (fun t=>t.FName==s)<;>rfl
theorem r10_field6f (s:Bs) (l:List Z5):Z69_q6 s l=(match l.find? (fun t=>t.FName==s) with|some t=>Sum.inr (t,true)|none=>Sum.inl ()):=by
 induction l with
 | nil=>rfl
 | cons a r ih =>
  rw [Z69_q6,List.find?_cons];simp only [on,ih];cases a.FName==s<;>rfl
theorem r10_fieldF (t:TDef) (s:Bs):Z69_q t s=fndF t.FFields.l s:=by
 unfold Z69_q fndF on;rw [r10_field6f];cases t.FFields.l.find? (fun t=>t.FName==s)<;>rfl
def RF (o:Option (Sl Z4)) (s:Sl Z4) (X:List Z4):Prop:=s.l.length+X.length<=maxF->∃nl,o=some ⟨nl,s.l++X⟩
theorem RF.pure (s:Sl Z4):RF (some s) s []:=fun _=>⟨s.nl,by simp⟩
theorem RF.bind {o:Option (Sl Z4)}{f:Sl Z4->Option (Sl Z4)}{s:Sl Z4}{X Y:List Z4}(h:RF o s X) (hf:∀s1,RF (f s1) s1 Y):RF (o.bind f) s (X++Y):=fun hb=>by
 simp only [List.length_append] at hb;obtain⟨n1,e1⟩:=h (by omega);obtain⟨n2,e2⟩:=hf ⟨n1,s.l++X⟩ (by simp only [List.length_append]; omega);exact⟨n2,by rw [e1,Option.bind_some,e2]; simp only [List.append_assoc]⟩
theorem RF.id {o:Option (Sl Z4)}{s:Sl Z4}{X:List Z4}(h:RF o s X):RF (o.bind fun x=>some x) s X:=fun hb=>by
 obtain⟨n1,e1⟩:=h hb; exact⟨n1,by rw [e1]; rfl⟩
theorem radd_rf (s:Sl Z4) (e:Int) (at_:Bs):RF (appC 24 s (⟨false,[Z4.mk e at_]⟩:Sl Z4)) s [Z4.mk e at_]:=fun hb=>⟨_,app24F (by simpa using hb)⟩
theorem rapp_rf (s:Sl Z4){o:Option (Sl Z4)}{X:List Z4}(h:X.length<=maxF->∃nl,o=some ⟨nl,X⟩):RF (o.bind fun x=>appC 24 s x) s X:=fun hb=>by
 obtain⟨n1,e1⟩:=h (by omega);rw [e1,Option.bind_some,app24F (by simpa using hb)];exact⟨_,rfl⟩
theorem rmore_rf {p n:Bs}(hp:p.length<=10000000) (hn:n.length<=1048576) (s:Sl Z4) (b:Bool):RF (bif b then((catC p ([40]:Bs)).bind fun x59=>(catC x59 n).bind fun x61=>(catC x61 ([41]:Bs)).bind fun x62=>(appC 24 s (⟨false,[(Z4.mk (22:Int) x62)]⟩:Sl Z4)).bind fun x63=>some x63) else(some s)) s (argX p n b):=by
 cases b
 ·exact RF.pure s
 ·rw [cond_true,catC_ok (by simp; omega),Option.bind_some,catC_ok (by simp; omega),Option.bind_some,catC_ok (by simp; omega),Option.bind_some];exact(radd_rf s 22 _).id
theorem rfield43 {p:Bs}(hp:p.length<=10000000) (y:Z5×Bool):∀(l:List Z7) (s:Sl Z4),(∀a∈l,a.FName.length<=1048576)->RF (Z91_q43 p y l s) s (args51 p y.1 l)
 | [],s,_=>by rw [Z91_q43]; exact .pure s
 | a::r,s,h=>by
  rw [Z91_q43];simp only [on,r10_inputF,rsame_q];have e:args51 p y.1 (a::r)=argX p a.FName (!(fndI y.1.FArgs.l a.FName).2||!sameV a.FType (fndI y.1.FArgs.l a.FName).1.FType)++args51 p y.1 r:=rfl;rw [e];have key:∀v:Bool,(!(fndI y.1.FArgs.l a.FName).2||!v)=(!(fndI y.1.FArgs.l a.FName).2||!sameV a.FType (fndI y.1.FArgs.l a.FName).1.FType)->RF (Option.bind (bif ((!(fndI y.1.FArgs.l a.FName).2)||(!v)) then((catC p ([40]:Bs)).bind fun x59=>(catC x59 a.FName).bind fun x61=>(catC x61 ([41]:Bs)).bind fun x62=>(appC 24 s (⟨false,[(Z4.mk (22:Int) x62)]⟩:Sl Z4)).bind fun x63=>some x63) else(some s)) fun s10_51=>Z91_q43 p y r s10_51) s (argX p a.FName (!(fndI y.1.FArgs.l a.FName).2||!sameV a.FType (fndI y.1.FArgs.l a.FName).1.FType)++args51 p y.1 r):=by
   intro v hv;rw [hv];exact RF.bind (rmore_rf hp (h a (.head _)) s _) fun s1=>rfield43 hp y r s1 fun x hx=>h x (.tail _ hx)
  cases hk:(fndI y.1.FArgs.l a.FName).2
  ·rw [hk] at key;exact key false rfl
  ·rw [hk] at key;exact key _ rfl
theorem rfield20 (x:Z5){p:Bs}(hp:p.length<=10000000):∀(l:List Z7) (s:Sl Z4),(∀a∈l,a.FName.length<=1048576)->RF (Z91_q20 x p l s) s (args30 p x l)
 | [],s,_=>by rw [Z91_q20]; exact .pure s
 | a::r,s,h=>by
  rw [Z91_q20];simp only [on,r10_inputF,r05_isNonNull_eq];have e:args30 p x (a::r)=argX p a.FName ((!(fndI x.FArgs.l a.FName).2&&nnW a.FType.FWraps.l)&&!a.FHas)++args30 p x r:=rfl;have e2:(((!(fndI x.FArgs.l a.FName).2)&&(bif (!(fndI x.FArgs.l a.FName).2) then nnW (bif (!(fndI x.FArgs.l a.FName).2) then a else Z7.zero).FType.FWraps.l else false))&&(!(bif ((!(fndI x.FArgs.l a.FName).2)&&(bif (!(fndI x.FArgs.l a.FName).2) then nnW (bif (!(fndI x.FArgs.l a.FName).2) then a else Z7.zero).FType.FWraps.l else false)) then a else Z7.zero).FHas))=((!(fndI x.FArgs.l a.FName).2&&nnW a.FType.FWraps.l)&&!a.FHas):=by
   cases (fndI x.FArgs.l a.FName).2
   ·simp only [Bool.not_false,Bool.true_and,cond_true];cases nnW a.FType.FWraps.l<;>rfl
   ·rfl
  rw [e,e2];exact RF.bind (rmore_rf hp (h a (.head _)) s _) fun s1=>rfield20 x hp r s1 fun x hx=>h x (.tail _ hx)
theorem rfield_is {d:TDoc}(hd:d.FDefs.l.length<=1048576){t:TDef}(ht:t.FName.length<=1048576) (htf:∀f∈t.FFields.l,FieldOk f){x:Z5}(hx:FieldOk x) (hb:(fieldX1 d t x).length<=maxF):∃nl,Z91_q d t x=some ⟨nl,fieldX1 d t x⟩:=by
 obtain⟨hx1,hx2,hx3⟩:=hx;obtain⟨hy1,hy2,hy3⟩:=fndF_ok htf x.FName;unfold Z91_q;simp only [on,r10_fieldF];rw [catC_ok (by simp; omega),Option.bind_some,catC_ok (by simp; omega),Option.bind_some]
 revert hb
 unfold fieldX1;cases (fndF t.FFields.l x.FName).2
 ·exact fun _=>⟨false,rfl⟩
 ·simp only [Bool.not_true,cond_false];intro hb;rw [(sub_is hd hy3 hx3).2,Option.bind_some];have h1:RF (bif (!subV d (fndF t.FFields.l x.FName).1.FType x.FType) then((appC 24 (Sl.nil:Sl Z4) (⟨false,[(Z4.mk (10:Int) (t.FName++[46]++x.FName))]⟩:Sl Z4)).bind fun x67=>some x67) else(some (Sl.nil:Sl Z4))) (Sl.nil:Sl Z4) (flS (!subV d (fndF t.FFields.l x.FName).1.FType x.FType) 10 (t.FName++[46]++x.FName)):=by
   cases subV d (fndF t.FFields.l x.FName).1.FType x.FType
   ·exact(radd_rf _ 10 _).id
   ·exact .pure _
  exact RF.bind h1 (fun s1=>RF.bind (rfield43 (by simp; omega) _ _ s1 hx2) fun s2=>(rfield20 x (by simp; omega) _ s2 hy2).id) (by show 0+_<=_; omega)
theorem rface30 {d:TDoc}(hd:d.FDefs.l.length<=1048576){t:TDef}(ht:t.FName.length<=1048576) (htf:∀f∈t.FFields.l,FieldOk f):∀(l:List Z5) (s:Sl Z4),(∀f∈l,FieldOk f)->RF (Z96_q30 d t l s) s (faceX d t l)
 | [],s,_=>by rw [Z96_q30]; exact .pure s
 | x::r,s,h=>by
  rw [Z96_q30];simp only [on];have e:faceX d t (x::r)=fieldX1 d t x++faceX d t r:=rfl;have e2:((Z91_q d t x).bind fun x39=>(appC 24 s x39).bind fun x40=>Z96_q30 d t r x40)=((Z91_q d t x).bind fun x39=>appC 24 s x39).bind fun x40=>Z96_q30 d t r x40:=by
   cases Z91_q d t x<;>rfl
  rw [e,e2];exact RF.bind (rapp_rf s (rfield_is hd ht htf (h x (.head _)))) fun s1=>rface30 hd ht htf r s1 fun f hf=>h f (.tail _ hf)
theorem rkind_is (d:TDoc) (n:Bs) (k:Int) (hk:k≠0):Z94_q d n k=namedS d n k:=by
 unfold Z94_q namedS;simp only [on,r10_find,show Z74_q n=Z119_q n from rfl];cases hf:(fnd d.FDefs.l n).2
 ·rw [fnd_zero hf];have:decide (TDef.zero.FKind=k)=false:=decide_eq_false fun e=>hk e.symm;rw [this];cases Z119_q n<;>rfl
 ·cases Z119_q n<;>rfl
theorem robj7 {d:TDoc}(hd:d.FDefs.l.length<=1048576) (hk:∀t∈d.FDefs.l,DefOkV t){t:TDef}(ht:DefOkV t):∀(l:List Bs) (i:Nat) (s:Sl Z4),t.FImplements.l.drop i=l->RF (Z96_q7 d t l i s) s (objX d t (t.FImplements.l.take i) l)
 | [],i,s,_=>by rw [Z96_q7]; exact .pure s
 | n::r,i,s,hdr=>by
  rw [Z96_q7,objX];simp only [on,rkind_is d n 2 (by decide),Z93_is,r10_find];have e:(bif ((decide (namedS d n 2=(0:Int)))&&(bif (decide (namedS d n 2=(0:Int))) then(bif (decide (namedS d n 2=(0:Int))) then(⟨t.FImplements.nl,t.FImplements.l.take i⟩:Sl Bs) else(Sl.nil:Sl Bs)).l.contains (bif (decide (namedS d n 2=(0:Int))) then n else([]:Bs)) else false)) then((7:Int)) else(namedS d n 2))=errO d (t.FImplements.l.take i) n 2:=by
   unfold errO;cases decide (namedS d n 2=(0:Int))<;>rfl
  rw [e,<- take_next hdr];refine RF.bind ?_ fun s1=>robj7 hd hk ht r (i+1) s1 (drop_nextS hdr).1;cases decide (errO d (t.FImplements.l.take i) n 2=0)
  ·exact(radd_rf s _ _).id
  ·simp only [Bool.not_true,cond_false];exact(rface30 hd ht.1 ht.2.1 _ s (fnd_ok hk n).2.1).id
theorem runi7 {d:TDoc}{t:TDef}(ht:DefOkV t):∀(l:List Z8) (i:Nat) (s:Sl Z4),t.FMembers.l.drop i=l->(∀m∈l,m.FName.length<=1048576)->RF (Z97_q7 d t l i s) s (uniX d t ((t.FMembers.l.take i).map Z8.FName) l)
 | [],i,s,_,_=>by rw [Z97_q7]; exact .pure s
 | m::r,i,s,hdr,hm=>by
  have h1:=ht.1; have h2:=hm m (.head _);rw [Z97_q7,uniX];simp only [on,rkind_is d m.FName 1 (by decide),r11_mem_is,<- map_any];have e:(bif ((decide (namedS d m.FName 1=(0:Int)))&&(bif (decide (namedS d m.FName 1=(0:Int))) then((bif (decide (namedS d m.FName 1=(0:Int))) then(⟨t.FMembers.nl,t.FMembers.l.take i⟩:Sl Z8) else(Sl.nil:Sl Z8)).l.map Z8.FName).contains m.FName else false)) then((7:Int)) else(namedS d m.FName 1))=errO d ((t.FMembers.l.take i).map Z8.FName) m.FName 1:=by
   unfold errO;cases decide (namedS d m.FName 1=(0:Int))<;>rfl
  have ht2:(t.FMembers.l.take (i+1)).map Z8.FName=(t.FMembers.l.take i).map Z8.FName++[m.FName]:=by rw [take_next hdr,List.map_append]; rfl
  rw [e,<- ht2];refine RF.bind ?_ fun s1=>runi7 ht r (i+1) s1 (drop_nextS hdr).1 fun x hx=>hm x (.tail _ hx);cases decide (errO d ((t.FMembers.l.take i).map Z8.FName) m.FName 1=0)
  ·simp only [Bool.not_false,cond_true];rw [catC_ok (by simp; omega),Option.bind_some,catC_ok (by simp; omega),Option.bind_some];exact(radd_rf s _ _).id
  ·exact .pure s
theorem rfaces7 {d:TDoc}(hd:d.FDefs.l.length<=1048576) (hk:∀t∈d.FDefs.l,DefOkV t):∀(l:List TDef) (s:Sl Z4),(∀t∈l,t∈d.FDefs.l)->RF (Z87_q7 d l s) s (l.flatMap (facesX1 d))
 | [],s,_=>by rw [Z87_q7]; exact .pure s
 | t::r,s,hm=>by
  have ht:=hk t (hm t (.head _));rw [Z87_q7,List.flatMap_cons];simp only [on];refine RF.bind ?_ fun s1=>rfaces7 hd hk r s1 fun x hx=>hm x (.tail _ hx);have asc:∀o:Option (Sl Z4),(o.bind fun x21=>(appC 24 s x21).bind fun x22=>some x22)=(o.bind fun x21=>appC 24 s x21).bind fun x=>some x:=fun o=>by cases o<;>rfl
  unfold facesX1;cases decide (t.FKind=(1:Int))
  ·simp only [cond_false];cases decide (t.FKind=(3:Int))
   ·exact .pure s
   ·simp only [cond_true];rw [asc];refine(rapp_rf s fun hb=>?_).id;obtain⟨nl,e⟩:=runi7 (d:=d) ht t.FMembers.l 0 (Sl.nil:Sl Z4) rfl ht.2.2 (by show 0+_<=_; simp only [List.take_zero,List.map_nil]; omega);unfold Z97_q;rw [e];exact⟨nl,rfl⟩
  ·simp only [cond_true];rw [asc];refine(rapp_rf s fun hb=>?_).id;obtain⟨nl,e⟩:=robj7 hd hk ht t.FImplements.l 0 (Sl.nil:Sl Z4) rfl (by show 0+_<=_; simp only [List.take_zero]; omega);unfold Z96_q;rw [e];exact⟨nl,rfl⟩
theorem rfaces_is {d:TDoc}(hd:d.FDefs.l.length<=1048576) (hk:∀t∈d.FDefs.l,DefOkV t) (hb:(facesX d).length<=maxF):∃nl,Z87_q d=some ⟨nl,facesX d⟩:=by
 obtain⟨nl,e⟩:=rfaces7 hd hk d.FDefs.l (Sl.nil:Sl Z4) (fun _ h=>h) (by show 0+_<=_; unfold facesX at hb; omega);unfold Z87_q;rw [e];exact⟨nl,rfl⟩
end Go.Proofs

namespace Go.Proofs
open Go Go.Ab
theorem argX_len (p n:Bs) (b:Bool):(argX p n b).length<=1:=by unfold argX flS; cases b<;>simp
theorem flatMap_len {α β:Type}{f:α->List β}{g:α->Nat}(h:∀x,(f x).length<=g x):∀l:List α,(l.flatMap f).length<=(l.map g).sum
 | []=>Nat.le_refl _
 | a::r=>by
  rw [List.flatMap_cons,List.length_append,List.map_cons,List.sum_cons];have:=h a; have:=flatMap_len h r; omega
theorem sum_one {α:Type}(l:List α):(l.map fun _=>1).sum=l.length:=by
 induction l with
 | nil=>rfl
 | cons a r ih=>simp only [List.map_cons,List.sum_cons,List.length_cons,ih]; omega
theorem args_len (p:Bs) (y:Z5) (l:List Z7):(args51 p y l).length<=l.length/\(args30 p y l).length<=l.length:=by
 rw [<- sum_one l];exact⟨flatMap_len (fun _=>argX_len _ _ _) l,flatMap_len (fun _=>argX_len _ _ _) l⟩
theorem fargs_len (f:Z5):f.FArgs.l.length+1<=f.sz:=by
 have:=f.sz_def; have:=Sl.len_lt (f:=Z7.sz) f.FArgs Z7.pos; omega
theorem fndF_sz {t:TDef}(n:Bs):(fndF t.FFields.l n).1.FArgs.l.length<=t.sz:=by
 rcases fndF_mem t.FFields.l n with e|e
 ·rw [e]; exact Nat.zero_le _
 ·have:=fargs_len (fndF t.FFields.l n).1; have:=Sl.mem_le (f:=Z5.sz) e; have:=t.sz_def; omega
theorem fieldX_len (d:TDoc) (t:TDef) (x:Z5):(fieldX1 d t x).length<=x.sz+t.sz:=by
 have h1:=fargs_len x;unfold fieldX1;cases (fndF t.FFields.l x.FName).2
 ·simp only [Bool.not_false,cond_true,List.length_cons,List.length_nil]; omega
 ·simp only [Bool.not_true,cond_false,List.length_append];have h2:=(args_len (t.FName++[46]++x.FName) (fndF t.FFields.l x.FName).1 x.FArgs.l).1;have h3:=(args_len (t.FName++[46]++x.FName) x (fndF t.FFields.l x.FName).1.FArgs.l).2;have h4:=fndF_sz (t:=t) x.FName;have h5:(flS (!subV d (fndF t.FFields.l x.FName).1.FType x.FType) 10 (t.FName++[46]++x.FName)).length<=1:=by unfold flS; cases (!subV d (fndF t.FFields.l x.FName).1.FType x.FType)<;>simp
  omega
theorem sum_addc {α:Type}(g:α->Nat) (c:Nat) (l:List α):(l.map fun x=>g x+c).sum=(l.map g).sum+l.length*c:=by
 induction l with
 | nil=>simp
 | cons a r ih=>simp only [List.map_cons,List.sum_cons,List.length_cons,ih,Nat.succ_mul]; omega
theorem face_len (d:TDoc) (t f:TDef):(faceX d t f.FFields.l).length<=f.sz*(1+t.sz):=by
 have h1:=flatMap_len (fieldX_len d t) f.FFields.l;rw [sum_addc] at h1;have h2:=f.sz_def;have h3:=Sl.len_lt (f:=Z5.sz) f.FFields Z5.pos;have h4:Sl.sz Z5.sz f.FFields=1+(f.FFields.l.map Z5.sz).sum:=rfl;have h5:f.FFields.l.length*t.sz<=f.sz*t.sz:=Nat.mul_le_mul_right _ (by omega);rw [Nat.mul_add,Nat.mul_one];unfold faceX;omega
noncomputable def szN (l:List TDef) (n:Bs):Nat:=bif (fnd l n).2 then(fnd l n).1.sz else 0
theorem szN_cons (a:TDef) (r:List TDef) (n:Bs):szN (a::r) n=if a.FName=n then a.sz else szN r n:=by
 unfold szN fnd;rw [List.find?_cons];by_cases h:a.FName=n
 ·rw [show (a.FName==n)=true by simpa using h,if_pos h]; rfl
 ·rw [show (a.FName==n)=false by simpa using h,if_neg h]
theorem sum_hit (s:Bs) (c:Nat):∀ns:List Bs,ns.Nodup->(ns.map fun n=>if s=n then c else 0).sum<=c
 | [],_=>Nat.zero_le _
 | n::r,h=>by
  obtain⟨h1,h2⟩:=List.nodup_cons.1 h;rw [List.map_cons,List.sum_cons];by_cases hs:s=n
  ·have h0:∀l:List Bs,n∉l->(l.map fun n=>if s=n then c else 0).sum=0:=fun l hl=>by
    induction l with
    | nil=>rfl
    | cons b q ih =>
     rw [List.map_cons,List.sum_cons,if_neg (fun e=>hl (by rw [<- hs,e]; exact .head _)),ih (fun hq=>hl (.tail _ hq))]
   rw [if_pos hs,h0 r h1]; omega
  ·rw [if_neg hs]; have:=sum_hit s c r h2; omega
theorem sum_dist:∀(l:List TDef) (ns:List Bs),ns.Nodup->(ns.map (szN l)).sum<=(l.map TDef.sz).sum
 | [],ns,_=>by
  have:∀q:List Bs,(q.map (szN [])).sum=0:=fun q=>by
   induction q with
   | nil=>rfl
   | cons b q ih=>rw [List.map_cons,List.sum_cons,ih]; rfl
  rw [this]; exact Nat.zero_le _
 | a::r,ns,h=>by
  have h1:=sum_hit a.FName a.sz ns h;have h2:=sum_dist r ns h;have h3:∀q:List Bs,(q.map (szN (a::r))).sum<=(q.map fun n=>if a.FName=n then a.sz else 0).sum+(q.map (szN r)).sum:=fun q=>by
   induction q with
   | nil=>exact Nat.le_refl _
   | cons b q ih =>
    simp only [List.map_cons,List.sum_cons];rw [szN_cons]
    split<;>omega
  have:=h3 ns;rw [List.map_cons,List.sum_cons]; omega
def distS:List Bs->List Bs->List Bs
 | _,[]=>[]
 | s,n::r=>bif s.contains n then distS (s++[n]) r else n::distS (s++[n]) r
theorem distS_not:∀(l s:List Bs) (n:Bs),n∈distS s l->n∉s
 | [],_,_,h=>by cases h
 | a::r,s,n,h=>by
  rw [distS] at h;cases hc:s.contains a
  ·rw [hc,cond_false] at h;rcases List.mem_cons.1 h with rfl|h
   ·simpa using hc
   ·have:=distS_not r (s++[a]) n h;exact fun hn=>this (by simp [hn])
  ·rw [hc,cond_true] at h;have:=distS_not r (s++[a]) n h;exact fun hn=>this (by simp [hn])
theorem distS_nodup:∀(l s:List Bs),(distS s l).Nodup
 | [],_=>List.nodup_nil
 | a::r,s=>by
  rw [distS];cases s.contains a
  ·rw [cond_false,List.nodup_cons];exact⟨fun h=>distS_not r (s++[a]) a h (by simp),distS_nodup r _⟩
  ·rw [cond_true]; exact distS_nodup r _
theorem obj_len (d:TDoc) (t:TDef):∀(l s:List Bs),(objX d t s l).length<=l.length+((distS s l).map (szN d.FDefs.l)).sum*(1+t.sz)
 | [],s=>by simp [objX]
 | n::r,s=>by
  have ih:=obj_len d t r (s++[n]);rw [objX,List.length_append,distS];cases he:decide (errO d s n 2=0)
  ·simp only [Bool.not_false,cond_true,List.length_cons,List.length_nil];cases s.contains n
   ·simp only [cond_false,List.map_cons,List.sum_cons];have:((distS (s++[n]) r).map (szN d.FDefs.l)).sum*(1+t.sz)<=(szN d.FDefs.l n+((distS (s++[n]) r).map (szN d.FDefs.l)).sum)*(1+t.sz):=Nat.mul_le_mul_right _ (by omega);omega
   ·simp only [cond_true]; omega
  ·have he:=of_decide_eq_true he;have hc:s.contains n=false:=by
    cases hc:s.contains n
    ·rfl
    ·unfold errO at he;rw [hc,Bool.and_true] at he;cases hz:decide (namedS d n 2=0)
     ·rw [hz,cond_false] at he; rw [decide_eq_false_iff_not] at hz; exact absurd he hz
     ·rw [hz,cond_true] at he; cases he
   have hf:(fnd d.FDefs.l n).2=true:=by
    unfold errO at he;rw [hc,Bool.and_false,cond_false] at he;unfold namedS at he;cases hf:(fnd d.FDefs.l n).2
    ·rw [hf] at he;cases hs:Z119_q n
     ·rw [hs] at he; cases he
     ·rw [hs] at he; cases he
    ·rfl
   have hs:szN d.FDefs.l n=(fnd d.FDefs.l n).1.sz:=by unfold szN; rw [hf]; rfl
   have h1:=face_len d t (fnd d.FDefs.l n).1;rw [hc];simp only [Bool.not_true,cond_false,List.map_cons,List.sum_cons,List.length_cons,Nat.add_mul];rw [hs]; omega
theorem uni_len (d:TDoc) (t:TDef):∀(l:List Z8) (s:List Bs),(uniX d t s l).length<=l.length
 | [],s=>Nat.le_refl _
 | m::r,s=>by
  have ih:=uni_len d t r (s++[m.FName]);rw [uniX,List.length_append,List.length_cons];have:(flS (!decide (errO d s m.FName 1=0)) (errO d s m.FName 1) (t.FName++[46]++m.FName)).length<=1:=by unfold flS; cases (!decide (errO d s m.FName 1=0))<;>simp
  omega
theorem facesX1_len (d:TDoc) (t:TDef):(facesX1 d t).length<=t.sz+(d.FDefs.l.map TDef.sz).sum*(1+t.sz):=by
 have h0:=t.sz_def;have h1:=Sl.len_lt (f:=Bs.sz) t.FImplements (fun s=>Nat.succ_le_succ (Nat.zero_le _));have h2:=Sl.len_lt (f:=Z8.sz) t.FMembers Z8.pos;unfold facesX1;cases decide (t.FKind=1)
 ·cases decide (t.FKind=3)
  ·exact Nat.zero_le _
  ·simp only [cond_false,cond_true];have:=uni_len d t t.FMembers.l []; omega
 ·simp only [cond_true];have h3:=obj_len d t t.FImplements.l [];have h4:=sum_dist d.FDefs.l (distS [] t.FImplements.l) (distS_nodup _ _);have h5:=Nat.mul_le_mul_right (1+t.sz) h4;omega
theorem sum_q (S:Nat):∀l:List TDef,(l.map fun t=>t.sz+S*(1+t.sz)).sum=(l.map TDef.sz).sum+S*(l.length+(l.map TDef.sz).sum)
 | []=>rfl
 | a::r=>by
  rw [List.map_cons,List.sum_cons,sum_q S r,List.map_cons,List.sum_cons,List.length_cons];simp only [Nat.mul_add,Nat.mul_one];omega
theorem facesX_len {d:TDoc}(hd:d.sz<=1048576):(facesX d).length<=3300000000000:=by
 have h0:=d.sz_def;have h1:Sl.sz TDef.sz d.FDefs=1+(d.FDefs.l.map TDef.sz).sum:=rfl;have h2:=Sl.len_lt (f:=TDef.sz) d.FDefs TDef.pos;have h3:=flatMap_len (facesX1_len d) d.FDefs.l;rw [sum_q] at h3;have h6:(d.FDefs.l.map TDef.sz).sum<=1048576:=by omega
 have h7:(d.FDefs.l.map TDef.sz).sum*(d.FDefs.l.length+(d.FDefs.l.map TDef.sz).sum)<=1048576*(1048576+1048576):=Nat.mul_le_mul h6 (by omega);unfold facesX;omega
end Go.Proofs

namespace Go.Proofs
open Go Go.Ab
def RefEq (a b:TRef):Prop:=a.FName=b.FName/\a.FWraps.l=b.FWraps.l
theorem r05_inner_eq {t:TRef}(h:t.FWraps.l.length<=1048576):∃x,Z52_q t=some (x,liW (barS t.FWraps).l)/\(liW (barS t.FWraps).l=true->RefEq (innerT t) x):=by
 unfold Z52_q;rw [r05_isList_eq h];simp only [Option.bind_some];cases hl:liW (barS t.FWraps).l with
 | false=>exact⟨_,rfl,fun h=>by cases h⟩
 | true =>
  have:=barS_len t.FWraps;simp only [Bool.not_true,cond_false];rw [r05_nullable_eq h];simp only [Option.bind_some];rw [Z58_is (show (barS t.FWraps).l.length<=1048576 by omega) (list_one hl)];exact⟨_,rfl,fun _=>⟨rfl,rfl⟩⟩
theorem RefEq.bar {a b:TRef}(h:RefEq a b):(barS a.FWraps).l=(barS b.FWraps).l:=by
 unfold barS; rw [h.2]; cases nnW b.FWraps.l<;>simp [h.2]
theorem r10_findAux (l:List TDef) (s:Bs):Z70_q6 s l=Z114_q7 s l:=by
 induction l with
 | nil=>rfl
 | cons a r ih=>rw [Z70_q6,Z114_q7,ih]; rfl
theorem r10_find_eq (d:TDoc) (s:Bs):Z70_q d s=fnd d.FDefs.l s:=by
 rw [<- find_eq]; unfold Z70_q Z114_q; rw [r10_findAux]; all_goals rfl
theorem r10_inputAux (l:List Z7) (s:Bs):Z71_q6 s l=Z115_q7 s l:=by
 induction l with
 | nil=>rfl
 | cons a r ih=>rw [Z71_q6,Z115_q7,ih]; rfl
theorem r10_inputOf_eq (t:Sl Z7) (s:Bs):Z71_q t s=fndI t.l s:=by
 rw [<- inputOf_eq]; unfold Z71_q Z115_q; rw [r10_inputAux]; all_goals rfl
theorem fnd_none (l:List TDef) (s:Bs) (h:(fnd l s).2=false):(fnd l s).1=TDef.zero:=by
 unfold fnd at *;cases e:l.find? (fun t=>t.FName==s) with
 | none=>rfl
 | some t=>rw [e] at h; cases h
theorem r10_leaf_eq (d:TDoc) (s:Bs):Z73_q d s=Z117_q d s:=by
 unfold Z73_q Z117_q Z129_q;simp only [on,r10_find_eq,find_eq];show (Z119_q s||_)=_;cases h:(fnd d.FDefs.l s).2 with
 | true=>cases Z119_q s<;>simp
 | false=>rw [fnd_none _ _ h]; cases Z119_q s<;>simp [TDef.zero]
theorem r10_isInput_eq (d:TDoc) (s:Bs):Z72_q d s=Z116_q d s:=by
 unfold Z72_q Z116_q Z129_q;simp only [on,r10_find_eq,find_eq,r10_leaf_eq];cases h:(fnd d.FDefs.l s).2 with
 | true=>cases Z117_q d s<;>simp
 | false=>rw [fnd_none _ _ h]; cases Z117_q d s<;>simp [TDef.zero]
theorem isInput_kind {d:TDoc}{s:Bs}(h:Z116_q d s=true) (hs:Z119_q s=false):(fnd d.FDefs.l s).1.FKind=4\/(fnd d.FDefs.l s).1.FKind=5:=by
 unfold Z116_q Z117_q Z129_q on at h;simp only [hs,find_eq,Bool.not_false,cond_true,Bool.false_or] at h;by_cases h4:(fnd d.FDefs.l s).1.FKind=4
 ·exact .inl h4
 ·simp [h4] at h; exact .inr h
end Go.Proofs

namespace Go.Proofs
open Go Go.Ab
def bB:Nat:=549755813888
def Rl:Nat->Z10->Z10->Prop
 | 0,_,_=>False
 | n+1,v,w=>v.FKind=w.FKind/\(v.FInt=w.FInt /\ -9223372036854775808<=v.FInt/\v.FInt<=9223372036854775807)/\v.FText=w.FText/\v.FKeys.l=w.FKeys.l/\(v.FKeys.nl=true->v.FKeys.l=[])/\v.FKeys.l.length<=bB/\v.FItems.l.length<=bB /\
  (v.FKind=3\/v.FKind=4->v.FInt=0/\v.FItems.l=[]/\v.FKeys.l=[])/\All2 (Rl n) v.FItems.l w.FItems.l
theorem Rl.mono:∀{n m:Nat}{v w:Z10},n<=m->Rl n v w->Rl m v w
 | 0,_,_,_,_,h=>h.elim
 | n+1,0,_,_,hn,_=>by omega
 | n+1,m+1,v,w,hn,⟨a,b,c,d,e,f,g,i,k⟩=>⟨a,b,c,d,e,f,g,i,k.imp fun _ _ h=>Rl.mono (by omega) h⟩
theorem appC80 {α:Type}{s r:Sl α}(h:s.l.length+r.l.length<=1099511627776):appC 80 s r=some ⟨s.nl&&r.l.isEmpty,s.l++r.l⟩:=by
 unfold appC; rw [if_pos];have:(s.l.length+r.l.length)*80<=1099511627776*80:=Nat.mul_le_mul_right _ h;unfold maxN; omega
theorem cloneS_eq {s:Sl Bs}(h:s.nl=true->s.l=[]) (hl:s.l.length<=bB):∃r,Z131_q s=some r/\r.l=s.l/\(r.nl=true->r.l=[]):=by
 unfold Z131_q;unfold bB at hl;cases hn:s.nl with
 | true=>exact⟨Sl.nil,rfl,(h hn).symm,fun _=>rfl⟩
 | false=>rw [cond_false,appC_ok32 (by omega) (by simp; omega)]; exact⟨_,rfl,by simp,fun e=>by simp at e⟩
theorem copy_rl:∀(n:Nat){v w:Z10},Rl n v w->∀m,2*n<=m->∃r,value_Copy_qn m v=some r/\Rl n r w
 | 0,_,_,h,_,_=>h.elim
 | n+1,v,w,⟨h1,h2,h3,h4,h5,h6,h7,h8,h9⟩,m,hm=>by
  obtain⟨m1,rfl⟩:∃m1,m=m1+1+1:=⟨m-2,by omega⟩;have hl:∀(l l':List Z10) (acc acc':List Z10) (s:Sl Z10),All2 (Rl n) l l'->All2 (Rl n) acc acc'->s.l=acc->s.l.length+l.length<=bB->∃s':Sl Z10,Z155_q8 (value_Copy_qn m1) l s=some s'/\All2 (Rl n) s'.l (acc'++l'):=by
   intro l l' acc acc' s hl;induction hl generalizing acc acc' s with
   | nil=>intro ha e _; exact⟨s,rfl,by rw [e]; simpa using ha⟩
   | @cons a b t t' hab ht ih =>
    intro ha e hb;obtain⟨r,hr,hr'⟩:=copy_rl n hab m1 (by omega);rw [Z155_q8];simp only [Ab.on,hr,Option.bind_some];simp only [List.length_cons] at hb;rw [appC80 (by unfold bB at hb; simp; omega),Option.bind_some];obtain⟨s',e1,e2⟩:=ih (acc++[r]) (acc'++[b]) ⟨s.nl&&[r].isEmpty,s.l++[r]⟩ (ha.append (.cons hr' .nil)) (by simp [e]) (by simp; omega);exact⟨s',e1,by simpa using e2⟩
  obtain⟨s',e1,e2⟩:=hl v.FItems.l w.FItems.l [] [] Sl.nil h9 .nil rfl (by simpa [Sl.nil] using h7);obtain⟨k,e3,e4,e5⟩:=cloneS_eq h5 h6;rw [value_Copy_qn,Z155_qn,e1,Option.bind_some];simp only [Ab.on,Option.bind_some,e3];have hlen:=e2.length;simp only [List.nil_append] at e2 hlen;refine⟨_,rfl,h1,h2,h3, ?_,e5, ?_, ?_,fun hk=>?_,e2⟩
  ·show k.l=_; rw [e4]; exact h4
  ·show k.l.length<=_; rw [e4]; exact h6
  ·show s'.l.length<=_; rw [hlen,<- h9.length]; exact h7
  ·obtain⟨q1,q2,q3⟩:=h8 hk;have:s'.l=[]:=List.eq_nil_of_length_eq_zero (by rw [hlen,<- h9.length,q2]; rfl);exact⟨q1,this,by show k.l=[]; rw [e4]; exact q3⟩
theorem rcopy_rl:∀(n:Nat){v w:Z10},Rl n v w->∀m,2*n<=m->∃r,r02_Copy_qn m w=some r/\Rl n v r
 | 0,_,_,h,_,_=>h.elim
 | n+1,v,w,⟨h1,h2,h3,h4,h5,h6,h7,h8,h9⟩,m,hm=>by
  obtain⟨m1,rfl⟩:∃m1,m=m1+1+1:=⟨m-2,by omega⟩;have hl:∀(l l':List Z10) (acc acc':List Z10) (s:Sl Z10),All2 (Rl n) l l'->All2 (Rl n) acc acc'->s.l=acc'->s.l.length+l'.length<=bB->∃s':Sl Z10,Z48_q7 (r02_Copy_qn m1) l' s=some s'/\All2 (Rl n) (acc++l) s'.l:=by
   intro l l' acc acc' s hl;induction hl generalizing acc acc' s with
   | nil=>intro ha e _; exact⟨s,rfl,by rw [e]; simpa using ha⟩
   | @cons a b t t' hab ht ih =>
    intro ha e hb;obtain⟨r,hr,hr'⟩:=rcopy_rl n hab m1 (by omega);rw [Z48_q7];simp only [Ab.on,hr,Option.bind_some];simp only [List.length_cons] at hb;rw [appC80 (by unfold bB at hb; simp; omega),Option.bind_some];obtain⟨s',e1,e2⟩:=ih (acc++[a]) (acc'++[r]) ⟨s.nl&&[r].isEmpty,s.l++[r]⟩ (ha.append (.cons hr' .nil)) (by simp [e]) (by simp; omega);exact⟨s',e1,by simpa using e2⟩
  obtain⟨s',e1,e2⟩:=hl v.FItems.l w.FItems.l [] [] Sl.nil h9 .nil rfl (by rw [<- h9.length]; simpa [Sl.nil] using h7);rw [r02_Copy_qn,Z48_qn,e1,Option.bind_some];simp only [Ab.on,Option.bind_some];rw [appC_ok32 (by omega) (by rw [<- h4]; unfold bB at h6; simp; omega),Option.bind_some];simp only [List.nil_append] at e2;exact⟨_,rfl,h1,h2,h3,(show v.FKeys.l=[]++w.FKeys.l by simpa using h4),h5,h6,h7,h8,e2⟩
end Go.Proofs

namespace Go.Proofs
open Go Go.Ab
theorem cnt_both (d:TDoc) (va:Z10) (li:Bool) (n lvl:Int) (hn:0<=n/\n<=4096) :
  (∃e c' k',e≠0/\Z24_q ⟨d,va,li,n⟩ lvl=some (e,c')/\Z105_q ⟨d,va,li,n,0⟩ lvl=some k'/\k'.Ferr=e) \/
  (lvl<=24/\n+1<=4096/\Z24_q ⟨d,va,li,n⟩ lvl=some (0,⟨d,va,li,n+1⟩)/\Z105_q ⟨d,va,li,n,0⟩ lvl=some ⟨d,va,li,n+1,0⟩):=by
 have ha:addC n (1:Int)=some (n+1):=addC_ok (by omega);unfold Z24_q Z105_q Z103_q;simp only [Ab.on,ha,Option.bind_some];by_cases h1:(24:Int)<lvl
 ·left
  simp only [h1,decide_true,cond_true,ha,Option.bind_some];by_cases h2:(4096:Int)<n+1
  ·exact⟨5,_,_,by omega,rfl,by simp [h2]; rfl,rfl⟩
  ·exact⟨5,_,_,by omega,rfl,by simp [h2]; rfl,rfl⟩
 ·simp only [h1,decide_false,cond_false,ha,Option.bind_some];by_cases h2:(4096:Int)<n+1
  ·left
   exact⟨4,_,_,by omega,by simp [h2]; rfl,by simp [h2]; rfl,rfl⟩
  ·right
   exact⟨by omega,by omega,by simp [h2],by simp [h2]⟩
def OutU (n:Nat) (d:TDoc) (va:Z10) (li:Bool) (v:Z10) (p:Option (Int×Z1)) (q:Option (Z10×Z2)):Prop :=
 (∃e c' x k',e≠0/\p=some (e,c')/\q=some (x,k')/\k'.Ferr=e)\/(∃m x,0<=m/\m<=4096/\p=some (0,⟨d,va,li,m⟩)/\q=some (x,⟨d,va,li,m,0⟩)/\Rl n v x)
theorem use_stop (a2:Int) (k:Z2->Z10->Int->Option (Z10×Z2)) (l:List Z10) (w:Z2) (x:Z10) (h:w.Ferr≠0):Z109_q14 a2 k l w x=some (w,x):=by
 cases l with
 | nil=>rfl
 | cons a t=>rw [Z109_q14]; simp [h]
theorem use_rel:∀(n:Nat){v w:Z10},Rl n v w->∀(m:Nat) (d:TDoc) (va:Z10) (li:Bool) (c lvl:Int),n<=m->0<=c/\c<=4096->0<=lvl/\lvl<=1099511627776 ->
  OutU n d va li v (Z30_qn m ⟨d,va,li,c⟩ v lvl) (Z109_qn m ⟨d,va,li,c,0⟩ w lvl)
 | 0,_,_,h,_,_,_,_,_,_,_,_,_=>h.elim
 | n+1,v,w,⟨h1,h2,h3,h4,h5,h6,h7,h8,h9⟩,m,d,va,li,c,lvl,hm,hc,hl=>by
  obtain⟨m,rfl⟩:∃m1,m=m1+1:=⟨m-1,by omega⟩;rw [Z30_qn,Z109_qn];have hk:appC 16 ((Z10.mk w.FKind w.FInt w.FText true ([]) (Sl.nil:Sl Bs)).FKeys) w.FKeys=some ⟨true&&w.FKeys.l.isEmpty,[]++w.FKeys.l⟩:=by
   rw [appC_ok32 (by omega) (by show ([]:List Bs).length+_<=_; rw [<- h4]; unfold bB at h6; simp; omega)]; rfl
  rcases cnt_both d va li c lvl hc with ⟨e,c',k',he,e1,e2,e3⟩|⟨hl2,hc2,e1,e2⟩
  ·left
   rw [e1,e2,Option.bind_some,Option.bind_some,hk,Option.bind_some,use_stop _ _ _ _ _ (by rw [e3]; exact he)];exact⟨e,c',_,k',he,by simp [he],rfl,e3⟩
  ·rw [e1,e2,Option.bind_some,Option.bind_some,hk,Option.bind_some];have hloop:∀(l l':List Z10) (acc acc':List Z10) (x:Z10) (c:Int),All2 (Rl n) l l'->All2 (Rl n) acc acc'->x.FItems.l=acc'->x.FItems.l.length+l'.length<=bB->0<=c/\c<=4096 ->
     (∃e c' k' x',e≠0/\Z30_q13 lvl (Z30_qn m) l ⟨d,va,li,c⟩=some (Sum.inr (e,c'))/\Z109_q14 lvl (Z109_qn m) l' ⟨d,va,li,c,0⟩ x=some (k',x')/\k'.Ferr=e) \/
     (∃c' x',0<=c'/\c'<=4096/\Z30_q13 lvl (Z30_qn m) l ⟨d,va,li,c⟩=some (Sum.inl ⟨d,va,li,c'⟩)/\Z109_q14 lvl (Z109_qn m) l' ⟨d,va,li,c,0⟩ x=some (⟨d,va,li,c',0⟩,x') /\
      x'.FKind=x.FKind/\x'.FInt=x.FInt/\x'.FText=x.FText/\x'.FKeys=x.FKeys/\All2 (Rl n) (acc++l) x'.FItems.l):=by
    intro l l' acc acc' x c hall;induction hall generalizing acc acc' x c with
    | nil=>intro ha e hb hc; right; exact⟨c,x,hc.1,hc.2,rfl,rfl,rfl,rfl,rfl,rfl,by rw [e]; simpa using ha⟩
    | @cons a b t t' hab ht ih =>
     intro ha e hb hc;simp only [List.length_cons] at hb;rw [Z30_q13,Z109_q14];simp only [Ab.on,addC_ok (show -9223372036854775808<=lvl+1/\lvl+1<=9223372036854775807 by omega),Option.bind_some,decide_true,cond_true];rcases use_rel n hab m d va li c (lvl+1) (by omega) hc (by omega) with ⟨e0,c',y,k',he,p1,p2,p3⟩|⟨c',y,hc1,hc2,p1,p2,p3⟩
     ·left
      rw [p1,p2,Option.bind_some,Option.bind_some,appC80 (by unfold bB at hb; simp; omega),Option.bind_some,use_stop _ _ _ _ _ (by rw [p3]; exact he)];exact⟨e0,c',k',_,he,by simp [he],rfl,p3⟩
     ·rw [p1,p2,Option.bind_some,Option.bind_some,appC80 (by unfold bB at hb; simp; omega),Option.bind_some];have:=ih (acc++[a]) (acc'++[y]) (Z10.mk x.FKind x.FInt x.FText (x.FItems.nl&&[y].isEmpty) (x.FItems.l++[y]) x.FKeys) c' (ha.append (.cons p3 .nil)) (by show x.FItems.l++[y]=_; rw [e]) (by show (x.FItems.l++[y]).length+_<=_; simp; omega) ⟨hc1,hc2⟩;simp only [decide_true,Bool.not_true,cond_false]
      rcases this with ⟨e2,c2,k2,x2,g0,g1,g2,g3⟩|⟨c2,x2,g1,g2,g3,g4,q1,q2,q3,q4,q5⟩
      ·exact .inl ⟨e2,c2,k2,x2,g0,g1,g2,g3⟩
      ·exact .inr ⟨c2,x2,g1,g2,g3,g4,q1,q2,q3,q4,by simpa using q5⟩
   rcases hloop v.FItems.l w.FItems.l [] [] (Z10.mk w.FKind w.FInt w.FText true [] ⟨true&&w.FKeys.l.isEmpty,[]++w.FKeys.l⟩) (c+1) h9 .nil rfl (by show ([]:List Z10).length+_<=_; rw [<- h9.length]; simpa using h7) (by omega) with
    ⟨e,c',k',x',he,p1,p2,p3⟩|⟨c',x',g1,g2,p1,p2,q1,q2,q3,q4,q5⟩
   ·left
    refine⟨e,c',x',k',he, ?_, ?_,p3⟩
    ·simp only [decide_true,Bool.not_true,cond_false,p1,Option.bind_some]
    ·exact(congrArg (fun o=>Option.bind o _) p2)
   ·right
    refine⟨c',x',g1,g2, ?_, ?_,by rw [q1]; exact h1,⟨by rw [q2]; exact h2.1,h2.2⟩,by rw [q3]; exact h3,by rw [q4]; show _=[]++w.FKeys.l; simpa using h4,h5,h6,h7,h8,by simpa using q5⟩
    ·simp only [decide_true,Bool.not_true,cond_false,p1,Option.bind_some,Ab.on]
    ·exact(congrArg (fun o=>Option.bind o _) p2)
end Go.Proofs

namespace Go.Proofs
open Go Go.Ab
def zv:Z10:=Z10.mk (0:Int) (0:Int) ([]:Bs) true ([]) (Sl.nil:Sl Bs)
theorem zv_rl:Rl 1 zv zv:=⟨rfl,⟨rfl,by decide,by decide⟩,rfl,rfl,fun _=>rfl,by show 0<=_; omega,by show 0<=_; omega,fun _=>⟨rfl,rfl,rfl⟩,.nil⟩
theorem get_rl {n:Nat}{v w:Z10}(h:Rl (n+1) v w) (hn:n<=1099511627776) (s:Bs):∃x y b,Z153_q v s=some (x,b)/\Z45_q w s=some (y,b)/\((b=true/\Rl n x y)\/(b=false/\x=zv/\y=zv)):=by
 obtain⟨h1,h2,h3,h4,h5,h6,h7,h8,h9⟩:=h;have hk:∀(l:List Bs) (i:Nat),(∃j:Nat,Z136_q6 s l i=Sum.inr (j:Int)/\∀w:Z10,Z45_q10 w s l i=(bif decide (((w.FItems.l.length:Nat):Int)<=((j:Nat):Int)) then some (Sum.inr (zv,false)) else((w.FItems.l[j]?).bind fun x27=>(r02_Copy_q x27).bind fun x28=>some (Sum.inr (x28,true))))) \/
   (Z136_q6 s l i=Sum.inl ()/\∀w:Z10,Z45_q10 w s l i=some (Sum.inl ())):=by
  intro l;induction l with
  | nil=>intro i; exact .inr ⟨rfl,fun _=>rfl⟩
  | cons a r ih =>
   intro i;rw [Z136_q6];simp only [Ab.on];cases e:(s==a) with
   | true=>exact .inl ⟨i,rfl,fun w=>by rw [Z45_q10]; simp only [Ab.on,show (a==s)=true by rw [Bool.beq_comm]; exact e,cond_true]; rfl⟩
   | false =>
    have e':(a==s)=false:=by rw [Bool.beq_comm]; exact e
    rcases ih (i+1) with ⟨j,q1,q2⟩|⟨q1,q2⟩
    ·exact .inl ⟨j,q1,fun w=>by rw [Z45_q10]; simp only [Ab.on,e',cond_false]; exact q2 w⟩
    ·exact .inr ⟨q1,fun w=>by rw [Z45_q10]; simp only [Ab.on,e',cond_false]; exact q2 w⟩
 have hV:∀i:Int,Z136_q v.FKeys s=i->Z153_q v s=(if v.FKind=6/\0<=i/\i<v.FItems.l.length then((idxC v.FItems.l i).bind fun x9=>(value_Copy_q x9).bind fun x10=>some (x10,true)) else some (zv,false)):=by
  intro i hi;unfold Z153_q;rw [hi];by_cases q1:v.FKind=6<;>by_cases q2:i<0<;>by_cases q3:(v.FItems.l.length:Int)<=i<;>simp [Ab.on,q1,q2,q3,zv]<;>try omega
  all_goals (rw [if_pos (by omega)])
 unfold Z45_q;rw [<- h1,<- h4];rcases hk v.FKeys.l 0 with ⟨j,q1,q2⟩|⟨q1,q2⟩
 ·have hi:Z136_q v.FKeys s=(j:Int):=by unfold Z136_q; rw [q1]; rfl
  rw [hV _ hi,q2 w,<- h9.length];by_cases h6':v.FKind=6
  ·simp only [h6',decide_true,Bool.not_true,cond_false,true_and];by_cases hj:j<v.FItems.l.length
   ·obtain⟨y,hy,hr⟩:=h9.get (List.getElem?_eq_getElem hj);obtain⟨x',e1,r1⟩:=copy_rl n hr F0 (by rw [F0_eq]; omega);obtain⟨y',e2,r2⟩:=rcopy_rl n r1 F0 (by rw [F0_eq]; omega);have hq:decide (((v.FItems.l.length:Nat):Int)<=(j:Int))=false:=decide_eq_false (by omega);refine⟨x',y',true, ?_, ?_,.inl ⟨rfl,r2⟩⟩
    ·rw [if_pos (by omega)];unfold idxC; rw [if_pos (by omega)];rw [show ((j:Int).toNat)=j by omega,List.getElem?_eq_getElem hj,Option.bind_some];unfold value_Copy_q; rw [e1]; rfl
    ·rw [hq,cond_false,hy,Option.bind_some]; unfold r02_Copy_q; rw [e2]; rfl
   ·have hq:decide (((v.FItems.l.length:Nat):Int)<=(j:Int))=true:=decide_eq_true (by omega);refine⟨zv,zv,false,by rw [if_neg (by omega)], ?_,.inr ⟨rfl,rfl,rfl⟩⟩;rw [hq]; rfl
  ·refine⟨zv,zv,false,by rw [if_neg (fun h=>h6' h.1)], ?_,.inr ⟨rfl,rfl,rfl⟩⟩;simp only [h6',decide_false,Bool.not_false,cond_true]; rfl
 ·have hi:Z136_q v.FKeys s = -1:=by unfold Z136_q; rw [q1]; rfl
  rw [hV _ hi,q2 w];refine⟨zv,zv,false,by rw [if_neg (by omega)], ?_,.inr ⟨rfl,rfl,rfl⟩⟩;cases decide (v.FKind=6)<;>rfl
theorem missing_eq {n:Nat}{va:Z10}(h:Rl (n+1) va va) (hn:n<=1099511627776) (d:TDoc) (li:Bool) (c:Int){m:Nat}{v w:Z10}(hv:Rl m v w) :
  ∃b,Z27_q ⟨d,va,li,c⟩ v=some b/\Z104_q ⟨d,va,li,c,0⟩ w=some b:=by
 cases m with
 | zero=>exact hv.elim
 | succ m =>
  obtain⟨h1,_,h3,_⟩:=hv;unfold Z27_q Z104_q;simp only;rw [<- h1,<- h3];obtain⟨x,y,b,e1,e2,_⟩:=get_rl h hn v.FText;rw [e1,e2];cases li<;>cases hk:decide (v.FKind=7)<;>exact⟨_,rfl,rfl⟩
end Go.Proofs

namespace Go.Proofs
open Go Go.Ab
theorem u8_small {n:Nat}(h:n<256):IntKind.wrap .u8 (n:Int)=(n:Int):=by
 have:(n:Int) % 256=n:=by omega
 simp [IntKind.wrap,IntKind.bits,IntKind.signed]; omega
theorem bytes_one (k:Nat):bytesC (⟨false,[((48+k:Nat):Int)]⟩:Sl Int)=[UInt8.ofNat (48+k)]:=by
 show [UInt8.ofNat ((48+k:Nat):Int).toNat]=_;rw [Int.toNat_natCast]
theorem dlen:∀(f u:Nat),u<10 ^ f->(Lib.decDigits u).length<=f+1:=by
 intro f;induction f with
 | zero =>
  intro u hu;have:u=0:=by simpa using hu
  subst this; rw [Lib.decDigits]; simp
 | succ f ih =>
  intro u hu;rw [Lib.decDigits]
  split
  ·simp
  ·have:=ih (u / 10) (by rw [Nat.pow_succ] at hu; omega);simp; omega
theorem dlen20 {u:Nat}(h:u<=9223372036854775808):(Lib.decDigits u).length<=21:=dlen 20 u (by omega)
theorem itoaLen {n:Int}(h0 : -9223372036854775808<=n) (h1:n<=9223372036854775807):(Lib.itoa n).length<=22:=by
 unfold Lib.itoa
 split
 ·have:=dlen20 (u:=n.natAbs) (by omega); simp; omega
 ·have:=dlen20 (u:=n.toNat) (by omega); omega
theorem digits_eq:∀(f u:Nat),u<10 ^ f->u<=9223372036854775808->f<=30->∀m,f+1<=m->Z42_qn m (-(u:Int))=some (Lib.decDigits u):=by
 intro f;induction f with
 | zero =>
  intro u hu hb hf m hm;have:u=0:=by simpa using hu
  subst this;obtain⟨m,rfl⟩:∃k,m=k+1:=⟨m-1,by omega⟩;rw [Lib.decDigits]; rfl
 | succ f ih =>
  intro u hu hb hf m hm;obtain⟨m,rfl⟩:∃k,m=k+1:=⟨m-1,by omega⟩;have h1:Int.tmod (-(u:Int)) 10 = -((u % 10:Nat):Int):=by rw [Int.neg_tmod]; rfl
  have h2:Int.tdiv (-(u:Int)) 10 = -((u / 10:Nat):Int):=by rw [Int.neg_tdiv]; rfl
  rw [Z42_qn,h1,h2,subC_ok (by omega),Option.bind_some];have h3:(48:Int) - -((u % 10:Nat):Int)=((48+u % 10:Nat):Int):=by omega
  rw [h3,u8_small (by omega),Lib.decDigits];by_cases hs:u<10
  ·rw [dif_pos hs,show decide ((-10:Int) < -(u:Int))=true from decide_eq_true (by omega),cond_true,Nat.mod_eq_of_lt hs,bytes_one]
  ·rw [dif_neg hs,show decide ((-10:Int) < -(u:Int))=false from decide_eq_false (by omega),cond_false,IntWalk.i64_in _ (by omega),ih (u / 10) (by rw [Nat.pow_succ] at hu; omega) (by omega) (by omega) m (by omega),Option.bind_some];have hl:=dlen20 (u:=u / 10) (by omega);rw [bytes_one,catC_ok (by simp; omega),Option.bind_some]
theorem decimal_eq {n:Int}(h0 : -9223372036854775808<=n) (h1:n<=9223372036854775807):Z38_q n=some (Lib.itoa n):=by
 unfold Z38_q Z42_q;have hF:∀u:Nat,u<=9223372036854775808->Z42_qn F0 (-(u:Int))=some (Lib.decDigits u):=fun u hu=>digits_eq 20 u (by omega) hu (by omega) F0 (by rw [F0_eq]; omega);by_cases hn:n<0
 ·obtain⟨u,rfl⟩:∃u:Nat,n = -(u:Int):=⟨n.natAbs,by omega⟩;rw [show decide (-(u:Int)<0)=true from decide_eq_true hn,cond_true,hF u (by omega),Option.bind_some];have hl:=dlen20 (u:=u) (by omega);rw [catC_ok (by simp; omega),Option.bind_some];unfold Lib.itoa; rw [if_pos hn,show (-(u:Int)).natAbs=u by omega]; rfl
 ·obtain⟨u,rfl⟩:∃u:Nat,n=(u:Int):=⟨n.natAbs,by omega⟩;rw [show decide ((u:Int)<0)=false from decide_eq_false hn,cond_false,IntWalk.i64_in _ (by omega),show (0:Int)-(u:Int) = -(u:Int) by omega,hF u (by omega),Option.bind_some];unfold Lib.itoa; rw [if_neg hn,Int.toNat_natCast]
theorem textDecimal_eq {n:Int}(h0 : -9223372036854775808<=n) (h1:n<=9223372036854775807):Z139_q n=some (Lib.itoa n):=by
 unfold Z139_q Z137_q Z137;rw [if_pos ⟨h0,h1,by have:=itoaLen h0 h1; unfold maxS; omega⟩]; rfl
end Go.Proofs

namespace Go.Proofs
open Go Go.Ab
def textV (s:Bs):Z10:=Z10.mk (3:Int) (0:Int) s true ([]) (Sl.nil:Sl Bs)
theorem textV_rl (s:Bs):Rl 1 (textV s) (textV s):=⟨rfl,⟨rfl,by show _<=(0:Int); decide,by show (0:Int)<=_; decide⟩,rfl,rfl,fun _=>rfl,by show 0<=_; omega,by show 0<=_; omega,fun _=>⟨rfl,rfl,rfl⟩,.nil⟩
def OutL (n:Nat) (d:TDoc) (va:Z10) (li:Bool) (c:Int) (p:Option (Z10×Int)) (q:Option (Z10×Z2)):Prop :=
 (∃x y k',p=some (x,23)/\q=some (y,k')/\k'.Ferr=23)\/(∃x y,p=some (x,0)/\q=some (y,⟨d,va,li,c,0⟩)/\Rl n x y)
theorem fail_new (d:TDoc) (va:Z10) (li:Bool) (c e:Int):Z103_q ⟨d,va,li,c,0⟩ e=⟨d,va,li,c,e⟩:=rfl
theorem scalar_rel {n:Nat}{v w:Z10}(h:Rl (n+1) v w) (d:TDoc) (va:Z10) (li:Bool) (c:Int) (s:Bs) (hs:Z119_q s=true) :
  OutL (n+1) d va li c (Z25_q ⟨d,va,li,c⟩ s v) (Z108_q ⟨d,va,li,c,0⟩ s w):=by
 obtain⟨h1,h2,h3,_⟩:=id h;have htx:Z38_q v.FInt=some (Lib.itoa v.FInt):=decimal_eq h2.2.1 h2.2.2;have htx':Z139_q v.FInt=some (Lib.itoa v.FInt):=textDecimal_eq h2.2.1 h2.2.2;have hT:Z154_q (Lib.itoa v.FInt)=textV (Lib.itoa v.FInt):=rfl;have hrl:Rl (n+1) (textV (Lib.itoa v.FInt)) (textV (Lib.itoa v.FInt)):=(textV_rl _).mono (by omega);unfold Z25_q Z108_q;rw [<- h1,<- h2.1];simp only [Ab.on,fail_new,htx,htx',hT,Option.bind_some]
 unfold Z119_q at hs;cases e1:(s==([73,110,116]:Bs))
 ·cases e2:(s==([83,116,114,105,110,103]:Bs))
  ·cases e3:(s==([66,111,111,108,101,97,110]:Bs))
   ·cases e4:(s==([73,68]:Bs))
    ·rw [e1,e2,e3,e4] at hs; cases hs
    ·by_cases k2:v.FKind=2
     ·simp only [k2,decide_true,cond_true,cond_false,Bool.false_and,Bool.and_true,Bool.true_and,Option.bind_some];exact .inr ⟨_,_,rfl,rfl,hrl⟩
     ·by_cases k3:v.FKind=3
      ·simp [k3];exact .inr ⟨_,_,rfl,rfl,h⟩
      ·simp [k2,k3];exact .inl ⟨_,_,_,rfl,rfl,rfl⟩
   ·by_cases k1:v.FKind=1
    ·simp [k1];exact .inr ⟨_,_,rfl,rfl,h⟩
    ·simp [k1];have e4:(s==([73,68]:Bs))=false:=by
      rw [beq_iff_eq] at e3; rw [e3]; rfl
     simp [e4];exact .inl ⟨_,_,_,rfl,rfl,rfl⟩
  ·have e3:(s==([66,111,111,108,101,97,110]:Bs))=false:=by rw [beq_iff_eq] at e2; rw [e2]; rfl
   have e4:(s==([73,68]:Bs))=false:=by rw [beq_iff_eq] at e2; rw [e2]; rfl
   by_cases k3:v.FKind=3
   ·simp [k3];exact .inr ⟨_,_,rfl,rfl,h⟩
   ·simp [k3,e3,e4];exact .inl ⟨_,_,_,rfl,rfl,rfl⟩
 ·have e2:(s==([83,116,114,105,110,103]:Bs))=false:=by rw [beq_iff_eq] at e1; rw [e1]; rfl
  have e3:(s==([66,111,111,108,101,97,110]:Bs))=false:=by rw [beq_iff_eq] at e1; rw [e1]; rfl
  have e4:(s==([73,68]:Bs))=false:=by rw [beq_iff_eq] at e1; rw [e1]; rfl
  by_cases k2:v.FKind=2<;>by_cases k3:(-2147483648:Int)<=v.FInt<;>by_cases k4:v.FInt<(2147483648:Int)<;>simp [k2,k3,k4,e2,e3,e4];all_goals first
   | exact .inr ⟨_,_,rfl,rfl,h⟩
   | exact .inl ⟨_,_,_,rfl,rfl,rfl⟩
end Go.Proofs

namespace Go.Proofs
open Go Go.Ab
theorem contains_eq (ms:Sl Z8) (p:Z8->Bool):Z132_q ms p=ms.l.any p:=by
 have aux:∀(l:List Z8) (i:Nat),(l.any p=true->∃j:Nat,Z135_q6 p l i=Sum.inr (j:Int))/\(l.any p=false->Z135_q6 p l i=Sum.inl ()):=by
  intro l;induction l with
  | nil=>intro i; exact⟨fun h=>(by cases h),fun _=>rfl⟩
  | cons a r ih =>
   intro i;rw [Z135_q6,List.any_cons];simp only [Ab.on];cases p a with
   | true=>exact⟨fun _=>⟨i,rfl⟩,fun h=>(by cases h)⟩
   | false=>simpa using ih (i+1)
 unfold Z132_q Z135_q;simp only [Ab.on];cases h:ms.l.any p with
 | true=>obtain⟨j,e⟩:=(aux ms.l 0).1 h; rw [e]; exact decide_eq_true (by show (0:Int)<=(j:Int); omega)
 | false=>rw [(aux ms.l 0).2 h]; rfl
theorem enum_loop (w:Z2) (x:Z10) (l:List Z8):Z102_q10 w x l=(if l.any (fun m=>m.FName==x.FText) then Sum.inr (Z10.mk (4:Int) (0:Int) x.FText true ([]) (Sl.nil:Sl Bs),w) else Sum.inl ()):=by
 induction l with
 | nil=>rfl
 | cons a r ih =>
  rw [Z102_q10,List.any_cons];simp only [Ab.on];cases a.FName==x.FText with
  | true=>rfl
  | false=>simpa using ih
theorem notScalar {s:Bs}(hs:Z119_q s=false):(s==([73,110,116]:Bs))=false/\(s==([83,116,114,105,110,103]:Bs))=false/\(s==([66,111,111,108,101,97,110]:Bs))=false/\(s==([73,68]:Bs))=false:=by
 unfold Z119_q at hs;simp only [Bool.or_eq_false_iff] at hs;exact⟨hs.1.1.1,hs.1.1.2,hs.1.2,hs.2⟩
theorem enum_rel {n:Nat}{v w:Z10}(h:Rl (n+1) v w) (d:TDoc) (va:Z10) (li:Bool) (c:Int) (s:Bs) (hs:Z119_q s=false) :
  OutL (n+1) d va li c (Z25_q ⟨d,va,li,c⟩ s v) (some (Z102_q ⟨d,va,li,c,0⟩ (fnd d.FDefs.l s).1 w)):=by
 obtain⟨e1,e2,e3,e4⟩:=notScalar hs;obtain⟨h1,h2,h3,h4,h5,h6,h7,h8,h9⟩:=id h;unfold Z25_q Z102_q Z26_q;rw [<- h1];simp only [e1,e2,e3,e4,Ab.on,fail_new,cond_false,find_eq,contains_eq,enum_loop,<- h3];have good:∀x:Z10,x.FKind=4->x.FInt=v.FInt->x.FText=v.FText->x.FItems.l=v.FItems.l->x.FKeys=v.FKeys->(v.FKind=3\/v.FKind=4)->Rl (n+1) x (Z10.mk (4:Int) (0:Int) v.FText true ([]) (Sl.nil:Sl Bs)):=by
  intro x a b c' d' e hk;obtain⟨g1,g2,g3⟩:=h8 hk;refine⟨a,⟨by rw [b,g1]; rfl,by rw [b]; exact h2.2⟩,c', ?_, ?_, ?_, ?_,fun _=>⟨by rw [b,g1],by rw [d',g2],by rw [e,g3]⟩, ?_⟩
  ·rw [e,g3]; rfl
  ·rw [e]; exact h5
  ·rw [e]; exact h6
  ·rw [d']; exact h7
  ·rw [d',g2]; exact .nil
 by_cases k4:v.FKind=4
 ·simp only [k4,decide_true,show decide ((4:Int)=3)=false from rfl,Bool.false_and,cond_false,cond_true,Bool.true_and,Bool.true_or];cases ha:(fnd d.FDefs.l s).1.FMembers.l.any (fun m=>m.FName==v.FText) with
  | true=>exact .inr ⟨_,_,rfl,rfl,good v k4 rfl rfl rfl rfl (.inr k4)⟩
  | false=>exact .inl ⟨_,_,_,rfl,rfl,rfl⟩
 ·by_cases k3:v.FKind=3
  ·cases li with
   | true =>
    simp only [k3,decide_true,show decide ((3:Int)=4)=false from rfl,Bool.not_true,Bool.and_false,cond_false,Bool.false_and,Bool.false_or,Bool.not_false,cond_true];exact .inl ⟨_,_,_,rfl,rfl,rfl⟩
   | false =>
    simp only [k3,decide_true,Bool.not_false,Bool.and_true,cond_true,Bool.or_true];have hk:(Z10.mk (4:Int) v.FInt v.FText v.FItems.nl v.FItems.l v.FKeys).FKind=4:=rfl;have ht:(Z10.mk (4:Int) v.FInt v.FText v.FItems.nl v.FItems.l v.FKeys).FText=v.FText:=rfl;simp only [hk,ht,decide_true,cond_true,Bool.true_and];cases ha:(fnd d.FDefs.l s).1.FMembers.l.any (fun m=>m.FName==v.FText) with
    | true=>exact .inr ⟨_,_,rfl,rfl,good _ rfl rfl rfl rfl rfl (.inl k3)⟩
    | false=>exact .inl ⟨_,_,_,rfl,rfl,rfl⟩
  ·simp only [k3,k4,decide_false,Bool.false_and,cond_false,Bool.not_false,cond_true,Bool.or_false];exact .inl ⟨_,_,_,rfl,rfl,rfl⟩
end Go.Proofs

namespace Go.Proofs
open Go Go.Ab
def atTail (n:Nat) (a1:TRef) (a3:Int) (y8_c0:Z1) (y9_l0:Z10):Option (Z10×Int×Z1) :=
 (Z24_q y8_c0 a3).bind fun x13=>bif (!decide (x13.1=(0:Int))) then(some (zv,x13.1,x13.2)) else(bif (decide (y9_l0.FKind=(0:Int))) then(bif Z144_q a1 then(some (zv,(23:Int),x13.2)) else(some (zv,(0:Int),x13.2))) else((Z142_q a1).bind fun x28=>bif x28.2 then(((coerce_coercer_list_qn n) x13.2 x28.1 y9_l0 a3).bind fun x32=>some (x32.1,x32.2.1,x32.2.2)) else(bif (((Z114_q x13.2.Fd a1.FName).2&&(!(bif (Z114_q x13.2.Fd a1.FName).2 then Z119_q a1.FName else false)))&&(decide ((Z114_q x13.2.Fd a1.FName).1.FKind=(5:Int)))) then(((coerce_coercer_object_qn n) x13.2 (Z114_q x13.2.Fd a1.FName).1 y9_l0 a3).bind fun x40=>some (x40.1,x40.2.1,x40.2.2)) else((Z25_q x13.2 a1.FName y9_l0).bind fun x42=>some (x42.1,x42.2,x13.2)))))
theorem at_unfold (n:Nat) (a0:Z1) (a1:TRef) (a2:Z10) (a3:Int):coerce_coercer_at_qn (n+1) a0 a1 a2 a3 =
  bif (!Z116_q a0.Fd a1.FName) then(some (zv,(10:Int),a0)) else(bif ((decide (a2.FKind=(7:Int)))&&a0.Fliteral) then((Z153_q a0.Fvars a2.FText).bind fun x46=>bif (!decide (x46.1.FKind=(0:Int))) then((Z30_q a0 x46.1 a3).bind fun x50=>bif (!decide (x50.1=(0:Int))) then(some (zv,x50.1,x50.2)) else(some (x46.1,(0:Int),x50.2))) else(atTail n a1 a3 a0 x46.1)) else(atTail n a1 a3 a0 a2)):=by
 rw [coerce_coercer_at_qn]; rfl
def coTail (n:Nat) (a1:TRef) (a3:Int) (y10_c0:Z2) (y11_l0:Z10):Option (Z10×Z2) :=
 (Z105_q y10_c0 a3).bind fun x14=>bif (!decide (x14.Ferr=(0:Int))) then(some (zv,x14)) else(bif (decide (y11_l0.FKind=(0:Int))) then(some (zv,bif Z54_q a1 then Z103_q x14 (23:Int) else x14)) else((Z52_q a1).bind fun x31=>bif x31.2 then(((r12_work_list_qn n) x14 x31.1 y11_l0 a3).bind fun x35=>some (x35.1,x35.2)) else(bif Z74_q a1.FName then((Z108_q x14 a1.FName y11_l0).bind fun x41=>some (x41.1,x41.2)) else(bif (decide ((Z70_q x14.Fd a1.FName).1.FKind=(4:Int))) then(some ((Z102_q x14 (Z70_q x14.Fd a1.FName).1 y11_l0).1,(Z102_q x14 (Z70_q x14.Fd a1.FName).1 y11_l0).2)) else(((r12_work_object_qn n) x14 (Z70_q x14.Fd a1.FName).1 y11_l0 a3).bind fun x50=>some (x50.1,x50.2))))))
theorem co_unfold (n:Nat) (a0:Z2) (a1:TRef) (a2:Z10) (a3:Int):r12_work_coerce_qn (n+1) a0 a1 a2 a3 =
  bif (!Z72_q a0.Fd a1.FName) then(some (zv,Z103_q a0 (10:Int))) else(bif (a0.Flit&&(decide (a2.FKind=(7:Int)))) then((Z45_q a0.Fvars a2.FText).bind fun x54=>bif (!decide (x54.1.FKind=(0:Int))) then((Z109_q a0 x54.1 a3).bind fun x59=>some (x59.1,x59.2)) else(coTail n a1 a3 a0 zv)) else(coTail n a1 a3 a0 a2)):=by
 rw [r12_work_coerce_qn]; rfl
def OutA (M:Nat) (d:TDoc) (va:Z10) (li:Bool) (p:Option (Z10×Int×Z1)) (q:Option (Z10×Z2)):Prop :=
 (∃e x c' y k',e≠0/\p=some (x,e,c')/\q=some (y,k')/\k'.Ferr=e)\/(∃m x y,0<=m/\m<=4096/\p=some (x,0,⟨d,va,li,m⟩)/\q=some (y,⟨d,va,li,m,0⟩)/\Rl M x y)
theorem OutA.eta {M:Nat}{d:TDoc}{va:Z10}{li:Bool}{p:Option (Z10×Int×Z1)}{q:Option (Z10×Z2)}(h:OutA M d va li p q) :
  OutA M d va li (p.bind fun x=>some (x.1,x.2.1,x.2.2)) (q.bind fun x=>some (x.1,x.2)):=by
 have e1:(p.bind fun x=>some (x.1,x.2.1,x.2.2))=p:=by cases p<;>rfl
 have e2:(q.bind fun x=>some (x.1,x.2))=q:=by cases q<;>rfl
 rw [e1,e2]; exact h
theorem OutL.outA {n M:Nat}{d:TDoc}{va:Z10}{li:Bool}{c:Int}{p:Option (Z10×Int)}{q:Option (Z10×Z2)}(h:OutL n d va li c p q) (hc:0<=c/\c<=4096) (hm:n<=M) :
  OutA M d va li (p.bind fun x=>some (x.1,x.2,(⟨d,va,li,c⟩:Z1))) q:=by
 rcases h with ⟨x,y,k',e1,e2,e3⟩|⟨x,y,e1,e2,e3⟩
 ·exact .inl ⟨23,x,_,y,k',by decide,by rw [e1]; rfl,e2,e3⟩
 ·exact .inr ⟨c,x,y,hc.1,hc.2,by rw [e1]; rfl,e2,e3.mono hm⟩
def InOk (N:Nat) (x:Z7):Prop:=SOk x.FType.FWraps/\(x.FHas=true->Rl N x.FDefault x.FDefault)
def DefOk (N:Nat) (t:TDef):Prop:=t.FInputs.l.length<=1048576/\∀x∈t.FInputs.l,InOk N x
def ListOk (N M:Nat) (d:TDoc) (n m:Nat) (lvl:Int):Prop:=∀(va:Z10) (li:Bool) (c:Int) (t t':TRef) (v w:Z10),Rl (N+1) va va->0<=c/\c<=4096->SOk t.FWraps->RefEq t t'->Rl N v w ->
 OutA M d va li (coerce_coercer_list_qn n ⟨d,va,li,c⟩ t v lvl) (r12_work_list_qn m ⟨d,va,li,c,0⟩ t' w lvl)
def ObjOk (N M:Nat) (d:TDoc) (n m:Nat) (lvl:Int):Prop:=∀(va:Z10) (li:Bool) (c:Int) (t:TDef) (v w:Z10),Rl (N+1) va va->0<=c/\c<=4096->DefOk N t->Rl N v w ->
 OutA M d va li (coerce_coercer_object_qn n ⟨d,va,li,c⟩ t v lvl) (r12_work_object_qn m ⟨d,va,li,c,0⟩ t w lvl)
theorem tail_rel {N M n m:Nat}{d:TDoc}{lvl:Int}(hM:N<=M) (hM1:1<=M) (hD:∀s,DefOk N (fnd d.FDefs.l s).1) (hl:lvl<=24->ListOk N M d n m lvl) (ho:lvl<=24->ObjOk N M d n m lvl){va:Z10}{li:Bool}{c:Int}{t t':TRef}{v w:Z10}
  (hva:Rl (N+1) va va) (hc:0<=c/\c<=4096) (ht:SOk t.FWraps) (he:RefEq t t') (hk:v.FKind=w.FKind) (hv:v.FKind≠0->Rl N v w) (hi:Z116_q d t.FName=true) :
  OutA M d va li (atTail n t lvl ⟨d,va,li,c⟩ v) (coTail m t' lvl ⟨d,va,li,c,0⟩ w):=by
 unfold atTail coTail;rcases cnt_both d va li c lvl hc with ⟨e,c',k',he,e1,e2,e3⟩|⟨hl2,hc2,e1,e2⟩
 ·rw [e1,e2];exact .inl ⟨e,zv,c',zv,k',he,by simp [he],by simp [e3,he],e3⟩
 ·rw [e1,e2];simp only [Option.bind_some,decide_true,Bool.not_true,cond_false];rw [<- hk,r05_isNonNull_eq,isNonNull_eq,<- he.2];by_cases k0:v.FKind=0
  ·simp only [k0,decide_true,cond_true,fail_new];cases nnW t.FWraps.l with
   | true=>exact .inl ⟨23,_,_,_,_,by decide,rfl,rfl,rfl⟩
   | false=>exact .inr ⟨c+1,_,_,by omega,by omega,rfl,rfl,zv_rl.mono hM1⟩
  ·have hv:=hv k0;simp only [k0,decide_false,cond_false];have hlen:t'.FWraps.l.length<=1048576:=by rw [<- he.2]; exact ht.2
   obtain⟨x,ex,hx⟩:=r05_inner_eq (t:=t') hlen;rw [ex,inner_eq ht,<- he.bar];simp only [Option.bind_some];cases hli:liW (barS t.FWraps).l with
   | true =>
    simp only [cond_true];refine(hl hl2 va li (c+1) _ _ v w hva (by omega) (innerT_ok ht) ?_ hv).eta;have h1:=hx (by rw [<- he.bar]; exact hli);exact⟨he.1.trans h1.1,by rw [<- h1.2]; show (barS t.FWraps).l.drop 1=(barS t'.FWraps).l.drop 1; rw [he.bar]⟩
   | false =>
    simp only [cond_false];rw [r10_find_eq,find_eq,<- he.1];have hs:Z74_q t.FName=Z119_q t.FName:=rfl;rw [hs];obtain⟨N,rfl⟩:∃N',N=N'+1:=by cases N with|zero=>exact hv.elim|succ N=>exact⟨N,rfl⟩
    cases hsc:Z119_q t.FName with
    | true =>
     have:((fnd d.FDefs.l t.FName).2&&!(bif (fnd d.FDefs.l t.FName).2 then true else false))=false:=by cases (fnd d.FDefs.l t.FName).2<;>rfl
     simp only [this,Bool.false_and,cond_false,cond_true];have:=(scalar_rel hv d va li (c+1) t.FName hsc).outA (M:=M) (by omega) hM;have e2:((Z108_q ⟨d,va,li,c+1,0⟩ t.FName w).bind fun x41=>some (x41.1,x41.2))=Z108_q ⟨d,va,li,c+1,0⟩ t.FName w:=by
      cases Z108_q ⟨d,va,li,c+1,0⟩ t.FName w<;>rfl
     rw [e2]; exact this
    | false =>
     simp only [cond_false];have hf:(fnd d.FDefs.l t.FName).2=true:=by
      cases hf:(fnd d.FDefs.l t.FName).2 with
      | true=>rfl
      | false =>
       have:=isInput_kind hi hsc;rw [fnd_none _ _ hf] at this;rcases this with h|h<;>cases h
     rw [hf];rcases isInput_kind hi hsc with h4|h5
     ·simp only [h4,decide_true,show decide ((4:Int)=5)=false from rfl,Bool.and_false,cond_false,cond_true];exact(enum_rel hv d va li (c+1) t.FName hsc).outA (M:=M) (by omega) hM
     ·simp only [h5,decide_true,show decide ((5:Int)=4)=false from rfl,cond_true,cond_false,Bool.not_false,Bool.and_true,Bool.and_self];exact(ho hl2 va li (c+1) _ v w hva (by omega) (hD _) hv).eta
end Go.Proofs

namespace Go.Proofs
open Go Go.Ab
theorem push_rl {M:Nat}{x y r r':Z10}{b b':Bool}(h:Rl (M+1) x y) (hr:Rl M r r') (h3:x.FKind≠3) (h4:x.FKind≠4) (hb:x.FItems.l.length+1<=bB) :
  Rl (M+1) (Z10.mk x.FKind x.FInt x.FText b (x.FItems.l++[r]) x.FKeys) (Z10.mk y.FKind y.FInt y.FText b' (y.FItems.l++[r']) y.FKeys):=by
 obtain⟨a1,a2,a3,a4,a5,a6,a7,a8,a9⟩:=h;exact⟨a1,a2,a3,a4,a5,a6,by show (x.FItems.l++[r]).length<=bB; simpa using hb,fun h=>(h.elim h3 h4).elim,a9.append (.cons hr .nil)⟩
def AtOk (N M:Nat) (d:TDoc) (n m:Nat) (lvl:Int):Prop:=∀(va:Z10) (li:Bool) (c:Int) (t t':TRef) (v w:Z10),Rl (N+1) va va->0<=c/\c<=4096->SOk t.FWraps->RefEq t t'->Rl N v w ->
 OutA M d va li (coerce_coercer_at_qn n ⟨d,va,li,c⟩ t v lvl) (r12_work_coerce_qn m ⟨d,va,li,c,0⟩ t' w lvl)
theorem list_stop (a1:TRef) (a3:Int) (k:Z2->TRef->Z10->Int->Option (Z10×Z2)) (l:List Z10) (w:Z2) (x:Z10) (h:w.Ferr≠0):r12_work_list_q12 a1 a3 k l w x=some (w,x):=by
 cases l with
 | nil=>rfl
 | cons a t=>rw [r12_work_list_q12]; simp [h]
theorem list_loop {N M n m:Nat}{d:TDoc}{lvl:Int}(hat:AtOk N M d n m (lvl+1)) (hlv:0<=lvl/\lvl<=1000){va:Z10}{li:Bool}{t t':TRef}(hva:Rl (N+1) va va) (ht:SOk t.FWraps) (he:RefEq t t') :
  ∀(l l':List Z10) (c:Int) (x y:Z10),All2 (Rl N) l l'->0<=c/\c<=4096->Rl (M+1) x y->x.FKind≠3->x.FKind≠4->x.FItems.l.length+l.length<=bB ->
   (∃e c' k' x' y',e≠0/\coerce_coercer_list_q14 t lvl (coerce_coercer_at_qn n) l ⟨d,va,li,c⟩ x=some (Sum.inr (x',e,c'))/\r12_work_list_q12 t' lvl (r12_work_coerce_qn m) l' ⟨d,va,li,c,0⟩ y=some (k',y')/\k'.Ferr=e) \/
   (∃c' x' y',0<=c'/\c'<=4096/\coerce_coercer_list_q14 t lvl (coerce_coercer_at_qn n) l ⟨d,va,li,c⟩ x=some (Sum.inl (⟨d,va,li,c'⟩,x'))/\r12_work_list_q12 t' lvl (r12_work_coerce_qn m) l' ⟨d,va,li,c,0⟩ y=some (⟨d,va,li,c',0⟩,y')/\Rl (M+1) x' y'):=by
 intro l l' c x y hl;induction hl generalizing c x y with
 | nil=>intro hc hx _ _ _; exact .inr ⟨c,x,y,hc.1,hc.2,rfl,rfl,hx⟩
 | @cons a b tl tl' hab htl ih =>
  intro hc hx h3 h4 hb;simp only [List.length_cons] at hb;have hby:y.FItems.l.length=x.FItems.l.length:=hx.2.2.2.2.2.2.2.2.length.symm;rw [coerce_coercer_list_q14,r12_work_list_q12];simp only [Ab.on,addC_ok (show -9223372036854775808<=lvl+1/\lvl+1<=9223372036854775807 by omega),Option.bind_some,decide_true,cond_true];have hax:∀r:Z10,appC 80 x.FItems (⟨false,[r]⟩:Sl Z10)=some ⟨x.FItems.nl&&[r].isEmpty,x.FItems.l++[r]⟩:=fun r=>appC80 (by unfold bB at hb; simp; omega)
  have hay:∀r:Z10,appC 80 y.FItems (⟨false,[r]⟩:Sl Z10)=some ⟨y.FItems.nl&&[r].isEmpty,y.FItems.l++[r]⟩:=fun r=>appC80 (by unfold bB at hb; simp; omega);rcases hat va li c t t' a b hva hc ht he hab with ⟨e,r,c',r',k',hne,p1,p2,p3⟩|⟨c',r,r',g1,g2,p1,p2,p3⟩
  ·left
   rw [p1,p2,Option.bind_some,Option.bind_some,hay,Option.bind_some,list_stop _ _ _ _ _ _ (by rw [p3]; exact hne)];exact⟨e,c',k',_,_,hne,by simp [hne]; rfl,rfl,p3⟩
  ·rw [p1,p2,Option.bind_some,Option.bind_some,hax,hay,Option.bind_some,Option.bind_some];simp only [decide_true,Bool.not_true,cond_false];exact ih c' _ _ ⟨g1,g2⟩ (push_rl hx p3 h3 h4 (by omega)) h3 h4 (by show (x.FItems.l++[r]).length+_<=bB; simp; omega)
theorem list_rel {N M n m:Nat}{d:TDoc}{lvl:Int}(hat:AtOk N M d n m (lvl+1)) (hlv:0<=lvl/\lvl<=1000):ListOk N (M+1) d (n+1) (m+1) lvl:=by
 intro va li c t t' v w hva hc ht he hv;have h0:Rl (M+1) (Z10.mk (5:Int) (0:Int) ([]:Bs) true ([]) (Sl.nil:Sl Bs)) (Z10.mk (5:Int) (0:Int) ([]:Bs) true ([]) (Sl.nil:Sl Bs)) :=
  ⟨rfl,⟨rfl,by show _<=(0:Int); decide,by show (0:Int)<=_; decide⟩,rfl,rfl,fun _=>rfl,by show 0<=_; omega,by show 0<=_; omega,fun h=>(by rcases h with h|h<;>cases h),.nil⟩
 have main:∀(s s':Sl Z10),All2 (Rl N) s.l s'.l->s.l.length<=bB->OutA (M+1) d va li
   ((coerce_coercer_list_q14 t lvl (coerce_coercer_at_qn n) s.l ⟨d,va,li,c⟩ (Z10.mk (5:Int) (0:Int) ([]:Bs) true ([]) (Sl.nil:Sl Bs))).bind fun o14=>match o14 with|Sum.inl z14=>(on ((z14.1,z14.2)) fun z7=>some (z7.2,(0:Int),z7.1))|Sum.inr e14=>(some e14))
   ((r12_work_list_q12 t' lvl (r12_work_coerce_qn m) s'.l ⟨d,va,li,c,0⟩ (Z10.mk (5:Int) (0:Int) ([]:Bs) true ([]) (Sl.nil:Sl Bs))).bind fun z12=>on ((z12.1,z12.2)) fun z7=>some (z7.2,z7.1)):=by
  intro s s' hs hb;rcases list_loop hat hlv (li:=li) hva ht he s.l s'.l c _ _ hs hc h0 (by decide) (by decide) (by show 0+_<=_; omega) with ⟨e,c',k',x',y',hne,p1,p2,p3⟩|⟨c',x',y',g1,g2,p1,p2,p3⟩
  ·rw [p1,p2]; exact .inl ⟨e,x',c',y',k',hne,rfl,rfl,p3⟩
  ·rw [p1,p2]; exact .inr ⟨c',x',y',g1,g2,rfl,rfl,p3⟩
 rw [coerce_coercer_list_qn,r12_work_list_qn];have hk:v.FKind=w.FKind:=by cases N with|zero=>exact hv.elim|succ N=>exact hv.1
 rw [<- hk];by_cases k5:v.FKind=5
 ·simp only [k5,decide_true,Bool.not_true,cond_false,cond_true];cases N with
  | zero=>exact hv.elim
  | succ N=>exact main v.FItems w.FItems (hv.2.2.2.2.2.2.2.2.imp fun _ _ h=>h.mono (by omega)) hv.2.2.2.2.2.2.1
 ·simp only [k5,decide_false,Bool.not_false,cond_false,cond_true];exact main ⟨false,[v]⟩ ⟨false,[w]⟩ (.cons hv .nil) (by show 1<=bB; unfold bB; omega)
end Go.Proofs

namespace Go.Proofs
open Go Go.Ab
def PlainOk (N M:Nat) (d:TDoc) (n m:Nat) (lvl:Int):Prop:=∀(va:Z10) (li:Bool) (c:Int) (x:Z7),0<=c/\c<=4096->InOk N x->x.FHas=true ->
 OutA M d va li (Z28_qn n ⟨d,va,li,c⟩ x lvl) (Z106_qn m ⟨d,va,li,c,0⟩ x.FType x.FDefault lvl)
theorem plain_rel {N M n m:Nat}{d:TDoc}{lvl:Int}(hat:AtOk N M d n m lvl):PlainOk N M d (n+1) (m+1) lvl:=by
 intro va li c x hc hx hh;rw [Z28_qn,Z106_qn];rcases hat zv true c x.FType x.FType x.FDefault x.FDefault (zv_rl.mono (by omega)) hc hx.1 ⟨rfl,rfl⟩ (hx.2 hh) with ⟨e,r,c',r',k',hne,p1,p2,p3⟩|⟨c',r,r',g1,g2,p1,p2,p3⟩
 ·unfold zv at p1 p2;rw [p1,p2];exact .inl ⟨e,r,_,r',_,hne,rfl,rfl,p3⟩
 ·unfold zv at p1 p2;rw [p1,p2];exact .inr ⟨c',r,r',g1,g2,rfl,rfl,p3⟩
theorem keys_err (t:TDef) (l:List Bs) (w:Z2) (h:w.Ferr=22):r12_work_object_q58 t l w=w:=by
 induction l generalizing w with
 | nil=>rfl
 | cons a r ih =>
  rw [r12_work_object_q58];have:Z103_q w 22=w:=by unfold Z103_q; rw [h]; rfl
  simp only [Ab.on,this];cases (!(Z71_q t.FInputs a).2)<;>exact ih w h
theorem keys_rel (d:TDoc) (va:Z10) (li:Bool) (c:Int) (t:TDef) (l:List Bs) :
  (coerce_coercer_object_q66 ⟨d,va,li,c⟩ t l=Sum.inr (zv,22,⟨d,va,li,c⟩)/\r12_work_object_q58 t l ⟨d,va,li,c,0⟩=⟨d,va,li,c,22⟩) \/
  (coerce_coercer_object_q66 ⟨d,va,li,c⟩ t l=Sum.inl ()/\r12_work_object_q58 t l ⟨d,va,li,c,0⟩=⟨d,va,li,c,0⟩):=by
 induction l with
 | nil=>exact .inr ⟨rfl,rfl⟩
 | cons a r ih =>
  rw [coerce_coercer_object_q66,r12_work_object_q58];simp only [Ab.on,fail_new,r10_inputOf_eq,inputOf_eq];cases h:(fndI t.FInputs.l a).2 with
  | true=>simpa using ih
  | false =>
   left
   simp only [Bool.not_false,cond_true];exact⟨rfl,keys_err t r _ rfl⟩
end Go.Proofs

namespace Go.Proofs
open Go Go.Ab
theorem earlier_loop (a0:Sl Z7) (i:Nat) (x:Z7) (hi:a0.l[i]?=some x) (hb:a0.l.length<=1048576):∀(k f:Nat) (s:Nat),s+k=i->k<f ->
  Z101_l5 a0 (i:Int) f (s:Int)=some (((a0.l.take i).drop s).any fun y=>y.FName==x.FName):=by
 have hil:i<a0.l.length:=(List.getElem?_eq_some_iff.1 hi).1;intro k;induction k with
 | zero =>
  intro f s hs hf;obtain⟨f,rfl⟩:∃g,f=g+1:=⟨f-1,by omega⟩;rw [Z101_l5,show decide ((s:Int)<(i:Int))=false from decide_eq_false (by omega),cond_false,List.drop_of_length_le (by simp; omega)]; rfl
 | succ k ih =>
  intro f s hs hf;obtain⟨f,rfl⟩:∃g,f=g+1:=⟨f-1,by omega⟩;have hsl:s<a0.l.length:=by omega
  rw [Z101_l5,show decide ((s:Int)<(i:Int))=true from decide_eq_true (by omega),cond_true];have e1:idxC a0.l (s:Int)=some a0.l[s]:=by unfold idxC; rw [if_pos (by omega),show ((s:Int).toNat)=s by omega,List.getElem?_eq_getElem hsl]
  have e2:idxC a0.l (i:Int)=some x:=by unfold idxC; rw [if_pos (by omega),show ((i:Int).toNat)=i by omega,hi]
  rw [e1,e2,Option.bind_some,Option.bind_some];have hd:(a0.l.take i).drop s=a0.l[s]::(a0.l.take i).drop (s+1):=by
   rw [List.drop_eq_getElem_cons (by simp; omega)]; simp
  rw [hd,List.any_cons,addC_ok (by omega),Option.bind_some];cases a0.l[s].FName==x.FName with
  | true=>rfl
  | false=>rw [cond_false,Bool.false_or]; exact ih f (s+1) (by omega) (by omega)
theorem earlier_eq (a0:Sl Z7) (i:Nat) (x:Z7) (hi:a0.l[i]?=some x) (hb:a0.l.length<=1048576):Z101_q a0 (i:Int)=some (fndI (a0.l.take i) x.FName).2:=by
 have hil:i<a0.l.length:=(List.getElem?_eq_some_iff.1 hi).1;unfold Z101_q Z101;have:=earlier_loop a0 i x hi hb i F0 0 (by omega) (by rw [F0_eq]; omega);rw [show ((0:Int))=((0:Nat):Int) from rfl,this,List.drop_zero];unfold fndI
 congr 1
 cases h:(a0.l.take i).find? (fun t=>t.FName==x.FName) with
 | none=>rw [List.find?_eq_none] at h; rw [List.any_eq_false]; exact h
 | some t=>exact List.any_eq_true.2 ⟨t,List.mem_of_find?_eq_some h,by simpa using List.find?_some h⟩
end Go.Proofs

namespace Go.Proofs
open Go Go.Ab
theorem pushK_rl {M:Nat}{x y r r':Z10}{b b' k k':Bool}{nm:Bs}(h:Rl (M+1) x y) (hr:Rl M r r') (h3:x.FKind≠3) (h4:x.FKind≠4) (hb:x.FItems.l.length+1<=bB) (hkb:x.FKeys.l.length+1<=bB) (hk:k=false) :
  Rl (M+1) (Z10.mk x.FKind x.FInt x.FText b (x.FItems.l++[r]) ⟨k,x.FKeys.l++[nm]⟩) (Z10.mk y.FKind y.FInt y.FText b' (y.FItems.l++[r']) ⟨k',y.FKeys.l++[nm]⟩):=by
 obtain⟨a1,a2,a3,a4,a5,a6,a7,a8,a9⟩:=h;exact⟨a1,a2,a3,by show x.FKeys.l++[nm]=y.FKeys.l++[nm]; rw [a4],fun e=>(by have e:k=true:=e; rw [hk] at e; cases e),by show (x.FKeys.l++[nm]).length<=bB; simpa using hkb,by show (x.FItems.l++[r]).length<=bB; simpa using hb,
  fun h=>(h.elim h3 h4).elim,a9.append (.cons hr .nil)⟩
def OutO (M:Nat) (d:TDoc) (va:Z10) (li:Bool) (p:Option (((Z1×Z10)) ⊕ ((Z10×Int×Z1)))) (q:Option (Z2×Z10)):Prop :=
 (∃e c' k' x' y',e≠0/\p=some (Sum.inr (x',e,c'))/\q=some (k',y')/\k'.Ferr=e) \/
 (∃c' x' y',0<=c'/\c'<=4096/\p=some (Sum.inl (⟨d,va,li,c'⟩,x'))/\q=some (⟨d,va,li,c',0⟩,y')/\Rl M x' y')
def finC (x22:Z10) (nm:Bs) (rec:Z1->Z10->Option (((Z1×Z10)) ⊕ ((Z10×Int×Z1)))) (e:Int) (c:Z1) (z:Z10):Option (((Z1×Z10)) ⊕ ((Z10×Int×Z1))) :=
 bif (!decide (e=(0:Int))) then(some (Sum.inr (zv,e,c))) else((appC 16 x22.FKeys (⟨false,[nm]⟩:Sl Bs)).bind fun x50=>(appC 80 x22.FItems (⟨false,[z]⟩:Sl Z10)).bind fun x51=>rec c (Z10.mk x22.FKind x22.FInt x22.FText x51.nl x51.l x50))
def finR (y21:Z10) (nm:Bs) (w:Z2) (z:Z10):Option (Z2×Z10) :=
 (appC 16 y21.FKeys (⟨false,[nm]⟩:Sl Bs)).bind fun x42=>(appC 80 y21.FItems (⟨false,[z]⟩:Sl Z10)).bind fun x43=>some (w,(Z10.mk y21.FKind y21.FInt y21.FText x43.nl x43.l x42))
theorem fin_rel {M:Nat}{d:TDoc}{va:Z10}{li:Bool}{x y:Z10}{nm:Bs}{rc:Z1->Z10->Option (((Z1×Z10)) ⊕ ((Z10×Int×Z1)))}{rr:Z2->Z10->Option (Z2×Z10)}
  (hx:Rl (M+1) x y) (h3:x.FKind≠3) (h4:x.FKind≠4) (hb:x.FItems.l.length+1<=bB) (hkb:x.FKeys.l.length+1<=bB)
  (hstop:∀w z,w.Ferr≠0->rr w z=some (w,z))
  (hrec:∀(c:Int) (x' y':Z10),0<=c/\c<=4096->Rl (M+1) x' y'->x'.FKind=x.FKind->x'.FItems.l.length=x.FItems.l.length+1->x'.FKeys.l.length=x.FKeys.l.length+1->OutO (M+1) d va li (rc ⟨d,va,li,c⟩ x') (rr ⟨d,va,li,c,0⟩ y'))
  {p:Option (Z10×Int×Z1)}{q:Option (Z10×Z2)}(h:OutA M d va li p q) :
  OutO (M+1) d va li (p.bind fun r=>finC x nm rc r.2.1 r.2.2 r.1) ((q.bind fun r=>finR y nm r.2 r.1).bind fun z=>rr z.1 z.2):=by
 have hby:y.FItems.l.length=x.FItems.l.length:=hx.2.2.2.2.2.2.2.2.length.symm;have hky:y.FKeys.l=x.FKeys.l:=hx.2.2.2.1.symm;have hax:∀r:Z10,appC 80 x.FItems (⟨false,[r]⟩:Sl Z10)=some ⟨x.FItems.nl&&[r].isEmpty,x.FItems.l++[r]⟩:=fun r=>appC80 (by unfold bB at hb; simp; omega);have hay:∀r:Z10,appC 80 y.FItems (⟨false,[r]⟩:Sl Z10)=some ⟨y.FItems.nl&&[r].isEmpty,y.FItems.l++[r]⟩:=fun r=>appC80 (by unfold bB at hb; simp; omega)
 have hkx:appC 16 x.FKeys (⟨false,[nm]⟩:Sl Bs)=some ⟨x.FKeys.nl&&[nm].isEmpty,x.FKeys.l++[nm]⟩:=appC_ok32 (by omega) (by unfold bB at hkb; simp; omega);have hkyy:appC 16 y.FKeys (⟨false,[nm]⟩:Sl Bs)=some ⟨y.FKeys.nl&&[nm].isEmpty,y.FKeys.l++[nm]⟩:=appC_ok32 (by omega) (by rw [hky]; unfold bB at hkb; simp; omega);rcases h with ⟨e,r,c',r',k',hne,p1,p2,p3⟩|⟨c',r,r',g1,g2,p1,p2,p3⟩
 ·left
  rw [p1,p2];unfold finC finR;simp only [Option.bind_some,hkyy,hay];rw [hstop _ _ (by rw [p3]; exact hne)];exact⟨e,c',k',zv,_,hne,by simp [hne],rfl,p3⟩
 ·rw [p1,p2];unfold finC finR;simp only [Option.bind_some,hkyy,hay,hkx,hax,decide_true,Bool.not_true,cond_false];exact hrec c' _ _ ⟨g1,g2⟩ (pushK_rl hx p3 h3 h4 hb hkb (by simp)) rfl (by show (x.FItems.l++[r]).length=_; simp) (by show (x.FKeys.l++[nm]).length=_; simp)
theorem obj_stop (a1:TDef) (a2:Z10) (a3:Int) (k k2:Z2->TRef->Z10->Int->Option (Z10×Z2)) (l:List Z7) (i:Nat) (w:Z2) (x:Z10) (h:w.Ferr≠0):r12_work_object_q18 a1 a2 a3 k k2 l i w x=some (w,x):=by
 cases l with
 | nil=>rfl
 | cons a t=>rw [r12_work_object_q18]; simp [h]
end Go.Proofs

namespace Go.Proofs
open Go Go.Ab
theorem objC_unfold (a1:TDef) (a2:Z10) (a3:Int) (kpl:Z1->Z7->Int->Option (Z10×Int×Z1)) (ka:Z1->TRef->Z10->Int->Option (Z10×Int×Z1)) (h:Z7) (r:List Z7) (i:Nat) (c:Z1) (x:Z10) :
  coerce_coercer_object_q18 a1 a2 a3 kpl ka (h::r) i c x=bif (Z115_q (⟨a1.FInputs.nl,a1.FInputs.l.take i⟩:Sl Z7) h.FName).2 then(coerce_coercer_object_q18 a1 a2 a3 kpl ka r (i+1) c x) else
   ((Z153_q a2 h.FName).bind fun x39=>guardO (x39.2) (Z27_q c x39.1) false fun x53 =>
    bif (x39.2&&(!x53)) then((addC a3 (1:Int)).bind fun x55=>(ka c h.FType x39.1 x55).bind fun x56=>finC x h.FName (coerce_coercer_object_q18 a1 a2 a3 kpl ka r (i+1)) x56.2.1 x56.2.2 x56.1)
    else(bif h.FHas then((addC a3 (1:Int)).bind fun x59=>(kpl c h x59).bind fun x60=>finC x h.FName (coerce_coercer_object_q18 a1 a2 a3 kpl ka r (i+1)) x60.2.1 x60.2.2 x60.1)
    else(bif Z144_q h.FType then(finC x h.FName (coerce_coercer_object_q18 a1 a2 a3 kpl ka r (i+1)) (22:Int) c Z10.zero) else(coerce_coercer_object_q18 a1 a2 a3 kpl ka r (i+1) c x)))):=by
 rw [coerce_coercer_object_q18]; rfl
theorem objR_unfold (a1:TDef) (a2:Z10) (a3:Int) (ka kpl:Z2->TRef->Z10->Int->Option (Z10×Z2)) (h:Z7) (r:List Z7) (i:Nat) (w:Z2) (x:Z10) (hw:w.Ferr=0) :
  r12_work_object_q18 a1 a2 a3 ka kpl (h::r) i w x=((Z101_q a1.FInputs ((i:Nat):Int)).bind fun x33=>Option.bind (bif x33 then(some (w,x)) else
   ((Z45_q a2 h.FName).bind fun x36=>guardO (x36.2) (Z104_q w x36.1) false fun x45 =>
    bif (x36.2&&(!x45)) then((addC a3 (1:Int)).bind fun x47=>(ka w h.FType x36.1 x47).bind fun x48=>finR x h.FName x48.2 x48.1)
    else(bif h.FHas then((addC a3 (1:Int)).bind fun x51=>(kpl w h.FType h.FDefault x51).bind fun x52=>finR x h.FName x52.2 x52.1)
    else(bif Z54_q h.FType then(finR x h.FName (Z103_q w (22:Int)) Z10.zero) else(some (w,x)))))) fun z26=>r12_work_object_q18 a1 a2 a3 ka kpl r (i+1) z26.1 z26.2):=by
 rw [r12_work_object_q18];simp only [hw,decide_true,cond_true];rfl
theorem obj_loop {N M n m:Nat}{d:TDoc}{lvl:Int}(hN:N+1<=1099511627776) (hat:AtOk (N+1) M d n m (lvl+1)) (hpl:PlainOk (N+1) M d n m (lvl+1)) (hlv:0<=lvl/\lvl<=1000){va:Z10}{li:Bool}{t:TDef}{v w:Z10}
  (hva:Rl (N+2) va va) (ht:DefOk (N+1) t) (hv:Rl (N+1) v w) :
  ∀(l:List Z7) (i:Nat) (c:Int) (x y:Z10),t.FInputs.l.drop i=l->0<=c/\c<=4096->Rl (M+1) x y->x.FKind=6->x.FItems.l.length+l.length<=1048576->x.FKeys.l.length+l.length<=1048576 ->
   OutO (M+1) d va li (coerce_coercer_object_q18 t v lvl (Z28_qn n) (coerce_coercer_at_qn n) l i ⟨d,va,li,c⟩ x) (r12_work_object_q18 t w lvl (r12_work_coerce_qn m) (Z106_qn m) l i ⟨d,va,li,c,0⟩ y):=by
 intro l;induction l with
 | nil=>intro i c x y _ hc hx _ _ _; exact .inr ⟨c,x,y,hc.1,hc.2,rfl,rfl,hx⟩
 | cons h r ih =>
  intro i c x y hd hc hx h6 hb hkb;simp only [List.length_cons] at hb hkb;have hil:i<t.FInputs.l.length:=by
   rcases Nat.lt_or_ge i t.FInputs.l.length with c|c
   ·exact c
   ·rw [List.drop_of_length_le c] at hd; cases hd
  have hcons:=List.drop_eq_getElem_cons hil;rw [hd] at hcons;simp only [List.cons.injEq] at hcons;obtain⟨hh,hr⟩:=hcons;have hget:t.FInputs.l[i]?=some h:=by rw [List.getElem?_eq_getElem hil,hh]
  have hin:InOk (N+1) h:=ht.2 h (List.mem_of_getElem? hget);have h3:x.FKind≠3:=by rw [h6]; decide
  have h4:x.FKind≠4:=by rw [h6]; decide
  rw [objC_unfold,objR_unfold _ _ _ _ _ _ _ _ _ _ rfl,earlier_eq t.FInputs i h hget ht.1,inputOf_eq,Option.bind_some];have skip:=ih (i+1) c x y hr.symm hc hx h6 (by omega) (by omega);have hrec:∀(c:Int) (x' y':Z10),0<=c/\c<=4096->Rl (M+1) x' y'->x'.FKind=x.FKind->x'.FItems.l.length=x.FItems.l.length+1->x'.FKeys.l.length=x.FKeys.l.length+1 ->
    OutO (M+1) d va li (coerce_coercer_object_q18 t v lvl (Z28_qn n) (coerce_coercer_at_qn n) r (i+1) ⟨d,va,li,c⟩ x') (r12_work_object_q18 t w lvl (r12_work_coerce_qn m) (Z106_qn m) r (i+1) ⟨d,va,li,c,0⟩ y') :=
   fun c x' y' h1 h2 h3 h4 h5=>ih (i+1) c x' y' hr.symm h1 h2 (h3.trans h6) (by omega) (by omega)
  have fin:∀{p q},OutA M d va li p q->_:=fun {p q} h1=>fin_rel (nm:=h.FName) (rr:=fun k z=>r12_work_object_q18 t w lvl (r12_work_coerce_qn m) (Z106_qn m) r (i+1) k z) (p:=p) (q:=q) hx h3 h4 (by unfold bB; omega) (by unfold bB; omega) (fun w z hw=>obj_stop _ _ _ _ _ _ _ _ _ hw) hrec h1;have hadd:addC lvl (1:Int)=some (lvl+1):=addC_ok (by omega);cases (fndI (t.FInputs.l.take i) h.FName).2 with
  | true=>simp only [cond_true,Option.bind_some]; exact skip
  | false =>
   simp only [cond_false];obtain⟨gx,gy,b,e1,e2,hbb⟩:=get_rl hv (by omega) h.FName;rw [e1,e2,Option.bind_some,Option.bind_some];have rest:OutO (M+1) d va li
     (bif h.FHas then((addC lvl (1:Int)).bind fun x59=>(Z28_qn n ⟨d,va,li,c⟩ h x59).bind fun x60=>finC x h.FName (coerce_coercer_object_q18 t v lvl (Z28_qn n) (coerce_coercer_at_qn n) r (i+1)) x60.2.1 x60.2.2 x60.1)
      else(bif Z144_q h.FType then(finC x h.FName (coerce_coercer_object_q18 t v lvl (Z28_qn n) (coerce_coercer_at_qn n) r (i+1)) (22:Int) ⟨d,va,li,c⟩ Z10.zero) else(coerce_coercer_object_q18 t v lvl (Z28_qn n) (coerce_coercer_at_qn n) r (i+1) ⟨d,va,li,c⟩ x)))
     (Option.bind (bif h.FHas then((addC lvl (1:Int)).bind fun x51=>(Z106_qn m ⟨d,va,li,c,0⟩ h.FType h.FDefault x51).bind fun x52=>finR y h.FName x52.2 x52.1)
      else(bif Z54_q h.FType then(finR y h.FName (Z103_q ⟨d,va,li,c,0⟩ (22:Int)) Z10.zero) else(some (⟨d,va,li,c,0⟩,y)))) fun z26=>r12_work_object_q18 t w lvl (r12_work_coerce_qn m) (Z106_qn m) r (i+1) z26.1 z26.2):=by
    cases hh:h.FHas with
    | true =>
     simp only [cond_true,hadd,Option.bind_some];exact fin (hpl va li c h hc hin hh)
    | false =>
     simp only [cond_false];rw [isNonNull_eq,r05_isNonNull_eq];cases nnW h.FType.FWraps.l with
     | true =>
      simp only [cond_true,fail_new];exact fin (p:=some (Z10.zero,22,⟨d,va,li,c⟩)) (q:=some (Z10.zero,⟨d,va,li,c,22⟩)) (.inl ⟨22,_,_,_,_,by decide,rfl,rfl,rfl⟩)
     | false=>simp only [cond_false,Option.bind_some]; exact skip
   rcases hbb with ⟨rfl,hg⟩|⟨rfl,hg1,hg2⟩
   ·obtain⟨bm,m1,m2⟩:=missing_eq (n:=N+1) hva hN d li c hg;simp only [guardO,if_true,m1,m2,Option.bind_some];cases bm with
    | true=>simp only [Bool.not_true,Bool.and_false,cond_false]; exact rest
    | false =>
     simp only [Bool.not_false,Bool.and_true,cond_true,hadd,Option.bind_some];exact fin (hat va li c h.FType h.FType gx gy hva hc hin.1 ⟨rfl,rfl⟩ (hg.mono (by omega)))
   ·simp only [guardO,Bool.false_eq_true,if_false,Bool.false_and,cond_false];exact rest
end Go.Proofs

namespace Go.Proofs
open Go Go.Ab
theorem obj_rel {N M n m:Nat}{d:TDoc}{lvl:Int}(hN:N<=1099511627776) (hat:AtOk N M d n m (lvl+1)) (hpl:PlainOk N M d n m (lvl+1)) (hlv:0<=lvl/\lvl<=1000):ObjOk N (M+1) d (n+1) (m+1) lvl:=by
 intro va li c t v w hva hc ht hv;obtain⟨N,rfl⟩:∃N',N=N'+1:=by cases N with|zero=>exact hv.elim|succ N=>exact⟨N,rfl⟩
 have h0:Rl (M+1) (Z10.mk (6:Int) (0:Int) ([]:Bs) true ([]) (Sl.nil:Sl Bs)) (Z10.mk (6:Int) (0:Int) ([]:Bs) true ([]) (Sl.nil:Sl Bs)) :=
  ⟨rfl,⟨rfl,by show _<=(0:Int); decide,by show (0:Int)<=_; decide⟩,rfl,rfl,fun _=>rfl,by show 0<=_; omega,by show 0<=_; omega,fun h=>(by rcases h with h|h<;>cases h),.nil⟩
 rw [coerce_coercer_object_qn,r12_work_object_qn,<- hv.1,<- hv.2.2.2.1];by_cases k6:v.FKind=6
 ·simp only [k6,decide_true,Bool.not_true,cond_false,Ab.on];rcases keys_rel d va li c t v.FKeys.l with ⟨e1,e2⟩|⟨e1,e2⟩
  ·rw [e1,e2];rw [obj_stop _ _ _ _ _ _ _ _ _ (by show (22:Int)≠0; decide)];exact .inl ⟨22,zv,_,_,_,by decide,rfl,rfl,rfl⟩
  ·rw [e1,e2];simp only;rcases obj_loop hN hat hpl hlv (li:=li) hva ht hv t.FInputs.l 0 c _ _ (by simp) hc h0 rfl (by show 0+_<=_; have:=ht.1; omega) (by show 0+_<=_; have:=ht.1; omega) with ⟨e,c',k',x',y',hne,p1,p2,p3⟩|⟨c',x',y',g1,g2,p1,p2,p3⟩
   ·rw [p1,p2]; exact .inl ⟨e,x',c',y',k',hne,rfl,rfl,p3⟩
   ·rw [p1,p2]; exact .inr ⟨c',x',y',g1,g2,rfl,rfl,p3⟩
 ·simp only [k6,decide_false,Bool.not_false,cond_true,Ab.on,fail_new];exact .inl ⟨23,_,_,_,_,by decide,rfl,rfl,rfl⟩
theorem at_step {N M n m:Nat}{d:TDoc}{lvl:Int}(hN:N+1<=1099511627776) (hM:N<=M) (hM1:1<=M) (hD:∀s,DefOk N (fnd d.FDefs.l s).1) (hlv:0<=lvl/\lvl<=1000) (hl:lvl<=24->ListOk N M d n m lvl) (ho:lvl<=24->ObjOk N M d n m lvl):AtOk N M d (n+1) (m+1) lvl:=by
 intro va li c t t' v w hva hc ht he hv;rw [at_unfold,co_unfold,r10_isInput_eq,<- he.1];cases hi:Z116_q d t.FName with
 | false=>exact .inl ⟨10,zv,_,zv,_,by decide,rfl,rfl,rfl⟩
 | true =>
  have hk:v.FKind=w.FKind:=by cases N with|zero=>exact hv.elim|succ N=>exact hv.1
  have htx:v.FText=w.FText:=by cases N with|zero=>exact hv.elim|succ N=>exact hv.2.2.1
  have hb:(li&&decide (w.FKind=7))=(decide (v.FKind=7)&&li):=by rw [hk,Bool.and_comm]
  simp only [Bool.not_true,cond_false,hb];cases hc7:(decide (v.FKind=7)&&li) with
  | false=>exact tail_rel hM hM1 hD hl ho hva hc ht he hk (fun _=>hv) hi
  | true =>
   simp only [cond_true];obtain⟨gx,gy,b,e1,e2,hg⟩:=get_rl hva (by omega) v.FText;rw [<- htx,e1,e2,Option.bind_some,Option.bind_some];have hgk:gx.FKind=gy.FKind:=by
    rcases hg with ⟨_,h⟩|⟨_,h1,h2⟩
    ·cases N with|zero=>exact h.elim|succ N=>exact h.1
    ·rw [h1,h2]
   simp only [<- hgk];by_cases k0:gx.FKind=0
   ·simp only [k0,decide_true,Bool.not_true,cond_false];exact tail_rel hM hM1 hD hl ho hva hc ht he k0 (fun h=>(h k0).elim) hi
   ·simp only [k0,decide_false,Bool.not_false,cond_true];have hr:Rl N gx gy:=by
     rcases hg with ⟨_,h⟩|⟨_,h1,h2⟩
     ·exact h
     ·rw [h1] at k0; exact(k0 rfl).elim
    unfold Z30_q Z109_q;rcases use_rel N hr F0 d va li c lvl (by rw [F0_eq]; omega) hc (by omega) with ⟨e,c',x,k',hne,p1,p2,p3⟩|⟨c',x,g1,g2,p1,p2,p3⟩
    ·rw [p1,p2];exact .inl ⟨e,zv,c',x,k',hne,by simp [hne],rfl,p3⟩
    ·rw [p1,p2];exact .inr ⟨c',gx,x,g1,g2,rfl,rfl,p3.mono hM⟩
theorem at_rel {N:Nat}{d:TDoc}(hN:N+1<=1099511627776) (hD:∀s,DefOk N (fnd d.FDefs.l s).1):∀(k:Nat) (lvl:Int),1<=lvl/\lvl<=900->25<=lvl+k->∀n m,3*k+1<=n->3*k+1<=m->AtOk N (N+k+1) d n m lvl:=by
 intro k;induction k with
 | zero =>
  intro lvl hl hk n m hn hm va li c t t' v w hva hc ht he hv;obtain⟨n,rfl⟩:∃x,n=x+1:=⟨n-1,by omega⟩;obtain⟨m,rfl⟩:∃x,m=x+1:=⟨m-1,by omega⟩;exact at_step hN (by omega) (by omega) hD (by omega) (fun h=>by omega) (fun h=>by omega) va li c t t' v w hva hc ht he hv
 | succ k ih =>
  intro lvl hl hk n m hn hm;obtain⟨n,rfl⟩:∃x,n=x+3:=⟨n-3,by omega⟩;obtain⟨m,rfl⟩:∃x,m=x+3:=⟨m-3,by omega⟩;by_cases h24:lvl<=24
  ·have a1:AtOk N (N+k+1) d n m (lvl+1):=ih (lvl+1) (by omega) (by omega) n m (by omega) (by omega);have a2:AtOk N (N+k+1) d (n+1) (m+1) (lvl+1):=ih (lvl+1) (by omega) (by omega) _ _ (by omega) (by omega);exact at_step hN (by omega) (by omega) hD (by omega) (fun _=>list_rel a2 (by omega)) (fun _=>obj_rel (by omega) a2 (plain_rel a1) (by omega))
  ·exact at_step hN (by omega) (by omega) hD (by omega) (fun h=>(h24 h).elim) (fun h=>(h24 h).elim)
end Go.Proofs

namespace Go.Proofs
open Go Go.Ab
def OutF (M:Nat) (p q:Option (Z10×Int)):Prop:=∃x y e,p=some (x,e)/\q=some (y,e)/\Rl M x y
theorem done_rel {N M:Nat}(hM1:1<=M) (hM:M<=1099511627776){d:TDoc}{va:Z10}{li:Bool}{p:Option (Z10×Int×Z1)}{q:Option (Z10×Z2)}(h:OutA M d va li p q) :
  OutF M (p.bind fun x=>Z31_q x.1 x.2.1) (q.bind fun x=>bif (!decide (x.2.Ferr=(0:Int))) then some (zv,x.2.Ferr) else some (x.1,0)):=by
 rcases h with ⟨e,r,c',r',k',hne,p1,p2,p3⟩|⟨c',r,r',g1,g2,p1,p2,p3⟩
 ·rw [p1,p2];refine⟨zv,zv,e, ?_, ?_,zv_rl.mono hM1⟩
  ·unfold Z31_q; simp [hne]; rfl
  ·simp [p3,hne]
 ·rw [p1,p2];obtain⟨x,e1,r1⟩:=copy_rl M p3 F0 (by rw [F0_eq]; omega);refine⟨x,r',0, ?_,by simp,r1⟩;unfold Z31_q value_Copy_q;simp [e1]
theorem run_rel {N:Nat}{d:TDoc}(hN:N+1<=1099511627000) (hD:∀s,DefOk N (fnd d.FDefs.l s).1){va:Z10}{li:Bool}{t:TRef}{v w:Z10}(hva:Rl (N+1) va va) (ht:SOk t.FWraps) (hv:Rl N v w) :
  OutF (N+25) ((coerce_coercer_at_q ⟨d,va,li,0⟩ t v 1).bind fun x15=>(Z31_q x15.1 x15.2.1).bind fun x16=>some (x16.1,x16.2)) ((Z107_q ⟨d,va,li,0,0⟩ t w).bind fun x=>some (x.1,x.2.1)):=by
 have h:=at_rel (by omega) hD 24 1 (by omega) (by omega) F0 F0 (by rw [F0_eq]; omega) (by rw [F0_eq]; omega) va li 0 t t v w hva (by omega) ht ⟨rfl,rfl⟩ hv;have h2:=done_rel (N:=N) (by omega) (by omega) h;unfold Z107_q coerce_coercer_at_q r12_work_coerce_q;obtain⟨x,y,e,e1,e2,e3⟩:=h2;refine⟨x,y,e, ?_, ?_,e3⟩
 ·rw [<- e1];cases coerce_coercer_at_qn F0 ⟨d,va,li,0⟩ t v 1 with
  | none=>rfl
  | some a=>simp only [Option.bind_some]; cases Z31_q a.1 a.2.1<;>rfl
 ·rw [<- e2];cases r12_work_coerce_qn F0 ⟨d,va,li,0,0⟩ t w 1 with
  | none=>rfl
  | some a=>simp only [Option.bind_some]; cases (!decide (a.2.Ferr=(0:Int)))<;>rfl
theorem literal_rel {N:Nat}{d:TDoc}(hN:N+1<=1099511627000) (hD:∀s,DefOk N (fnd d.FDefs.l s).1){va:Z10}{t:TRef}{v w:Z10}(hva:Rl (N+1) va va) (ht:SOk t.FWraps) (hv:Rl N v w) :
  OutF (N+25) (Z23_q d t v va) (Z99_q d t w va):=by
 unfold Z23_q Z99_q;obtain⟨b,m1,m2⟩:=missing_eq hva (by omega) d true 0 hv;have hrun:=run_rel hN hD (li:=true) hva ht hv;simp only [Ab.on,m1,Option.bind_some,r10_isInput_eq];cases hi:Z116_q d t.FName with
 | false =>
  simp only [guardO,Bool.false_eq_true,if_false,Bool.false_and,cond_false,Bool.not_false,cond_true];cases b with
  | false=>simp only [cond_false]; exact hrun
  | true =>
   simp only [cond_true];refine⟨zv,zv,10,rfl, ?_,zv_rl.mono (by omega)⟩;unfold Z107_q r12_work_coerce_q;rw [show F0=4611686018427387903+1 from rfl,co_unfold,r10_isInput_eq,hi]; rfl
 | true =>
  simp only [guardO,if_true,m2,Option.bind_some,Bool.true_and,Bool.not_true,cond_false];cases b with
  | false=>simp only [cond_false]; exact hrun
  | true=>simp only [cond_true]; exact⟨zv,zv,8,rfl,rfl,zv_rl.mono (by omega)⟩
end Go.Proofs

namespace Go.Proofs
open Go Go.Ab
theorem node_facts {v:Z10}{b:Bool}(h:Z49_q v b=some true) (hk:v.FKind=3\/v.FKind=4):v.FInt=0/\v.FItems.l=[]/\v.FKeys.l=[]:=by
 unfold Z49_q at h;rcases hk with hk|hk
 ·simp [hk,Ab.on] at h;exact⟨h.1.1,h.1.2,h.2⟩
 ·simp only [hk,show decide ((4:Int)=0)=false from rfl,show decide ((4:Int)=1)=false from rfl,show decide ((4:Int)=2)=false from rfl,show decide ((4:Int)=3)=false from rfl,decide_true,cond_false,cond_true,Ab.on] at h;cases c:(((decide (v.FInt=(0:Int)))&&(decide (((v.FItems.l.length:Nat):Int)=(0:Int))))&&(decide (((v.FKeys.l.length:Nat):Int)=(0:Int)))) with
  | true=>simp at c; exact⟨c.1.1,c.1.2,c.2⟩
  | false=>rw [c] at h; simp at h
theorem whole_rl (n:Nat):∀(v:Z10) (b:Bool),Z51_qn n v b=some true->v.wf->v.sz<=1048576->Rl n v v:=by
 induction n with
 | zero=>intro v b h; cases h
 | succ n ih =>
  intro v b h hw hs;rw [Z51_qn] at h;cases e:Z49_q v b with
  | none=>rw [e] at h; cases h
  | some x =>
   cases x with
   | false=>rw [e] at h; cases h
   | true =>
    rw [e] at h;simp only [Option.bind_some,Bool.not_true,cond_false,Ab.on] at h;have hwf:=(Z10.wf_iff v).1 hw;have hsz:=v.sz_def;have hl:∀l:List Z10,Z51_q11 b (Z51_qn n) l=some (Sum.inl ())->∀x∈l,Z51_qn n x b=some true:=by
     intro l;induction l with
     | nil=>intro _ x hx; cases hx
     | cons a r ihl =>
      intro h;rw [Z51_q11] at h;simp only [Ab.on] at h;cases e:Z51_qn n a b with
      | none=>simp [e] at h
      | some y =>
       cases y with
       | false=>simp [e] at h
       | true =>
        simp only [e,Option.bind_some,Bool.not_true,cond_false] at h;intro x hx;rcases List.mem_cons.1 hx with rfl|hx
        ·exact e
        ·exact ihl h x hx
    have hitems:∀x∈v.FItems.l,Z51_qn n x b=some true:=by
     cases e2:Z51_q24 b v.FKeys.l with
     | inr y=>rw [e2] at h; simp only [Option.some.injEq] at h; subst h; exact absurd e2 (by
       intro e2;have:∀l:List Bs,Z51_q24 b l≠Sum.inr true:=by
        intro l;induction l with
        | nil=>intro h; cases h
        | cons a r ihl =>
         rw [Z51_q24]; simp only [Ab.on];cases (b&&!(bif b then Z39_q (bif b then a else []) else false)) with
         | true=>intro h; cases h
         | false=>exact ihl
       exact this _ e2)
     | inl _ =>
      rw [e2] at h;simp only at h;cases e3:Z51_q11 b (Z51_qn n) v.FItems.l with
      | none=>rw [e3] at h; cases h
      | some z =>
       cases z with
       | inl _=>exact hl _ e3
       | inr y =>
        rw [e3] at h;simp only [Option.bind_some,Option.some.injEq] at h;subst h;have:∀l:List Z10,Z51_q11 b (Z51_qn n) l≠some (Sum.inr true):=by
         intro l;induction l with
         | nil=>intro h; cases h
         | cons a r ihl =>
          rw [Z51_q11]; simp only [Ab.on];cases Z51_qn n a b with
          | none=>intro h; cases h
          | some y =>
           cases y with
           | false=>intro h; cases h
           | true=>exact ihl
        exact(this _ e3).elim
    have hiL:=Sl.len_le (f:=Z10.sz) v.FItems (fun x=>by have:=x.sz_def; omega);have hkL:=Sl.len_le (f:=Bs.sz) v.FKeys (fun x=>Bs.sz_pos x);have self:∀l:List Z10,(∀x∈l,Rl n x x)->All2 (Rl n) l l:=by
     intro l;induction l with
     | nil=>intro _; exact .nil
     | cons a r ihl=>intro h; exact .cons (h a (by simp)) (ihl fun x hx=>h x (by simp [hx]))
    refine⟨rfl,⟨rfl,hwf.2.1⟩,rfl,rfl,hwf.2.2.2.2.1.1,by unfold bB; omega,by unfold bB; omega,node_facts e,self _ fun x hx=>ih x b (hitems x hx) ?_ ?_⟩
    ·exact hwf.2.2.2.1.2.2 x hx
    ·have:=Sl.mem_le (f:=Z10.sz) hx; omega
end Go.Proofs

namespace Go.Proofs
open Go Go.Ab
theorem condE {α:Type}{c:Bool}{a b:Option α}{z:α}(h:cond c a b=some z):(c=true/\a=some z)\/(c=false/\b=some z):=by cases c; exact .inr ⟨rfl,h⟩; exact .inl ⟨rfl,h⟩
theorem guardE {α β:Type}{c:Bool}{o:Option α}{d:α}{k:α->Option β}{z:β}(h:guardO c o d k=some z):(c=true/\∃v,o=some v/\k v=some z)\/(c=false/\k d=some z):=by
  unfold guardO at h;cases c with
  | true=>obtain⟨v,e,h⟩:=bindO_some (by simpa using h); exact .inl ⟨rfl,v,e,h⟩
  | false=>exact .inr ⟨rfl,by simpa using h⟩
theorem literal_is {v:Z10}(h:Z46_q v=some true):Z51_qn F0 v true=some true:=by
  unfold Z46_q at h;obtain⟨a,_,h⟩:=bindO_some h;rcases guardE h with ⟨_,b,_,h⟩|⟨_,h⟩
  · rcases guardE h with ⟨_,c,e,h⟩|⟨_,h⟩
    · simp at h; rw [h.2] at e; exact e
    · simp at h
  · rcases guardE h with ⟨_,c,e,h⟩|⟨_,h⟩
    · simp at h; rw [h.2] at e; exact e
    · simp at h
theorem inputs_right (l:List Z7) (z:Unit ⊕ Bool) (h:Z65_q10 l=some z):(z=Sum.inl ()/\∀x∈l,x.FHas=true->Z46_q x.FDefault=some true)\/z=Sum.inr false:=by
  induction l generalizing z with
  | nil=>rw [Z65_q10] at h; exact .inl ⟨(Option.some.inj h).symm,fun a ha=>by cases ha⟩
  | cons a r ih =>
    rw [Z65_q10] at h;simp only [Ab.on] at h;have step:∀(x27:Bool),(a.FHas=true->Z46_q a.FDefault=some x27)->∀x28:Bool,(bif ((a.FHas&&((!x27)||(!x28)))||((!a.FHas)&&(!(bif (!(a.FHas&&((!x27)||(!x28)))&&(!a.FHas)) then Z67_q a.FDefault else false)))) then(some (Sum.inr false)) else(Z65_q10 r))=some z ->
        (z=Sum.inl ()/\∀x∈a::r,x.FHas=true->Z46_q x.FDefault=some true)\/z=Sum.inr false:=by
      intro x27 e x28 h;rcases condE h with ⟨_,h⟩|⟨hc,h⟩
      · exact .inr (Option.some.inj h).symm
      · rcases ih z h with ⟨h1,h2⟩|h1
        · refine .inl ⟨h1,fun x hx hh=>?_⟩
          rcases List.mem_cons.1 hx with rfl|hx
          · have:=e hh
            rw [hh] at hc;cases x27 with
            | true=>exact this
            | false=>simp at hc
          · exact h2 x hx hh
        · exact .inr h1
    rcases guardE h with ⟨_,x22,_,h⟩|⟨_,h⟩<;>rcases guardE h with ⟨_,x23,_,h⟩|⟨_,h⟩<;>rcases condE h with ⟨_,h⟩|⟨_,h⟩;all_goals first
      | exact .inr (Option.some.inj h).symm
      | (rcases guardE h with ⟨_,x27,e27,h⟩|⟨e27,h⟩
         · rcases guardE h with ⟨_,x28,_,h⟩|⟨_,h⟩
           · exact step x27 (fun _=>e27) x28 h
           · exact step x27 (fun _=>e27) false h
         · rcases guardE h with ⟨_,x28,_,h⟩|⟨_,h⟩
           · exact step false (fun hh=>by rw [hh] at e27; cases e27) x28 h
           · exact step false (fun hh=>by rw [hh] at e27; cases e27) false h)
end Go.Proofs

namespace Go.Proofs
open Go Go.Ab
theorem inputsRight_w {s:Sl Z7}(h:Z65_q s=some true):∀x∈s.l,x.FHas=true->Z46_q x.FDefault=some true:=by
  unfold Z65_q at h;rcases condE h with ⟨_,h⟩|⟨_,h⟩
  · cases h
  · obtain⟨z,g,h⟩:=bindO_some h
    rcases inputs_right _ _ g with ⟨_,h1⟩|rfl
    · exact h1
    · cases h
theorem defs34 (l:List Bs) (y:Bool) (h:Z62_q34 l=Sum.inr y):y=false:=by
  induction l with
  | nil=>cases h
  | cons a r ih =>
    rw [Z62_q34] at h;simp only [Ab.on] at h
    revert h
    cases (!Z39_q a) with
    | true=>intro h; exact(Sum.inr.inj h).symm
    | false=>exact ih
theorem def_right {t:TDef}(h:Z62_q t=some true):∀x∈t.FInputs.l,x.FHas=true->Z46_q x.FDefault=some true:=by
  have nil:t.FInputs.l=[]->∀x∈t.FInputs.l,x.FHas=true->Z46_q x.FDefault=some true:=fun e x hx=>by rw [e] at hx; cases hx
  have fin:∀c:Bool,(some (c&&decide (((t.FInputs.l.length:Nat):Int)=(0:Int))))=some true->t.FInputs.l=[]:=fun c h=>by
    simp at h; exact h.2
  unfold Z62_q at h;simp only [Ab.on] at h;rcases guardE h with ⟨_,x5,_,h⟩|⟨_,h⟩<;>rcases condE h with ⟨_,h⟩|⟨_,h⟩;all_goals first
    | (cases h; done)
    | (cases e:Z62_q34 t.FImplements.l with
       | inr y=>rw [e] at h; have:=defs34 _ _ e; subst this; cases h
       | inl _ =>
         rw [e] at h;simp only at h;rcases condE h with ⟨_,h⟩|⟨_,h⟩
         · obtain⟨x15,_,h⟩:=bindO_some h
           exact nil (fin _ h)
         · rcases condE h with ⟨_,h⟩|⟨_,h⟩
           · rcases guardE h with ⟨_,x,_,h⟩|⟨_,h⟩<;>exact nil (fin _ h)
           · rcases condE h with ⟨_,h⟩|⟨_,h⟩
             · rcases guardE h with ⟨_,x,_,h⟩|⟨_,h⟩<;>exact nil (fin _ h)
             · rcases condE h with ⟨_,h⟩|⟨_,h⟩
               · rcases guardE h with ⟨_,x,_,h⟩|⟨_,h⟩<;>exact nil (fin _ h)
               · rcases condE h with ⟨_,h⟩|⟨_,h⟩
                 · rcases guardE h with ⟨_,x,ex,h⟩|⟨_,h⟩
                   · simp at h; rw [h.2] at ex; exact inputsRight_w ex
                   · simp at h
                 · cases h)
theorem docs_right (l:List TDef) (z:Unit ⊕ Bool) (h:Z60_q10 l=some z):(z=Sum.inl ()/\∀x∈l,Z62_q x=some true)\/z=Sum.inr false:=by
  induction l generalizing z with
  | nil=>rw [Z60_q10] at h; exact .inl ⟨(Option.some.inj h).symm,fun a ha=>by cases ha⟩
  | cons a r ih =>
    rw [Z60_q10] at h;simp only [Ab.on] at h;obtain⟨x,g,h⟩:=bindO_some h;cases x with
    | false=>simp at h; exact .inr h.symm
    | true =>
      simp only [Bool.not_true,cond_false] at h;rcases ih z h with ⟨h1,h2⟩|h1
      · exact .inl ⟨h1,fun y hy=>by rcases List.mem_cons.1 hy with rfl|hy; exact g; exact h2 y hy⟩
      · exact .inr h1
theorem doc_right {d:TDoc}(h:Z60_q d=some true):∀x∈d.FDefs.l,Z62_q x=some true:=by
  unfold Z60_q at h;rcases condE h with ⟨_,h⟩|⟨_,h⟩
  · cases h
  · obtain⟨z,g,h⟩:=bindO_some h
    rcases docs_right _ _ g with ⟨_,h1⟩|rfl
    · exact h1
    · cases h
end Go.Proofs

namespace Go.Proofs
open Go Go.Ab
theorem all2_self {α:Type}{R S:α->α->Prop}{l:List α}(h:All2 R l l) (hi:∀x∈l,R x x->S x x):All2 S l l :=
 All2.of_get rfl fun i x y h1 h2=>by
  rw [h1] at h2; simp only [Option.some.injEq] at h2; subst h2;obtain⟨y,h3,h4⟩:=h.get h1;rw [h1] at h3; simp only [Option.some.injEq] at h3; subst h3;exact hi x (List.mem_of_getElem? h1) h4
theorem Rl.small:∀(m n:Nat){v:Z10},Rl n v v->v.sz<=m->Rl m v v
 | 0,_,v,_,hm=>by have:=v.pos; omega
 | _+1,0,_,h,_=>h.elim
 | m+1,n+1,v,⟨a,b,c,d,e,f,g,i,k⟩,hm=>⟨a,b,c,d,e,f,g,i,all2_self k fun x hx h=>Rl.small m n h (by have:=Z10.item_lt hx; omega)⟩
def nB:Nat:=1048576
theorem literal_rl {v:Z10}(h:Z46_q v=some true) (hw:v.wf) (hs:v.sz<=1048576):Rl nB v v:=Rl.small _ _ (whole_rl F0 v true (literal_is h) hw hs) hs
theorem sok_wraps {t:TRef}(hw:t.wf) (hs:t.sz<=1048576):SOk t.FWraps:=⟨hw.2.1.1,by have:=TRef.wraps_le t; omega⟩
theorem inOk_of {x:Z7}(hl:x.FHas=true->Z46_q x.FDefault=some true) (hw:x.wf) (hs:x.sz<=1048576):InOk nB x:=by
 have:=x.sz_def;exact⟨sok_wraps hw.2.1 (by omega),fun h=>literal_rl (hl h) hw.2.2.2.1 (by omega)⟩
theorem defOk_of {t:TDef}(hl:∀x∈t.FInputs.l,x.FHas=true->Z46_q x.FDefault=some true) (hw:t.wf) (hs:t.sz<=1048576):DefOk nB t:=by
 have h1:=t.sz_def;have h2:=Sl.len_le (f:=Z7.sz) t.FInputs (fun x=>x.pos);exact⟨by omega,fun x hx=>inOk_of (hl x hx) (hw.2.2.2.2.2.2.1.2.2 x hx) (by have:=Sl.mem_le (f:=Z7.sz) hx; omega)⟩
theorem doc_ok {d:TDoc}(h:Z60_q d=some true) (hw:d.wf) (hs:d.sz<=1048576):∀s,DefOk nB (fnd d.FDefs.l s).1:=by
 intro s;rcases fnd_mem d.FDefs.l s with e|hm
 ·rw [e]; exact⟨by show 0<=_; omega,fun x hx=>by cases hx⟩
 ·exact defOk_of (def_right (doc_right h _ hm)) (hw.1.2.2 _ hm) (by have:=TDoc.def_le hm; omega)
end Go.Proofs

namespace Go.Proofs
open Go Go.Ab
theorem fields_right (l:List Z5) (z:Unit ⊕ Bool) (h:Z64_q10 l=some z):(z=Sum.inl ()/\∀f∈l,∀x∈f.FArgs.l,x.FHas=true->Z46_q x.FDefault=some true)\/z=Sum.inr false:=by
  induction l generalizing z with
  | nil=>rw [Z64_q10] at h; exact .inl ⟨(Option.some.inj h).symm,fun a ha=>by cases ha⟩
  | cons a r ih =>
    rw [Z64_q10] at h;simp only [Ab.on] at h;cases hn:Z39_q a.FName with
    | false =>
      rw [hn] at h;simp [guardO] at h;exact .inr h.symm
    | true =>
      rw [hn] at h;simp only [Bool.not_true,Bool.not_false,cond_true,Bool.false_or] at h;rcases guardE h with ⟨_,y,ey,h⟩|⟨hf,_⟩
      · cases y with
        | false=>simp [guardO] at h; exact .inr h.symm
        | true =>
          simp only [Bool.not_true,Bool.not_false,cond_true,Bool.false_or] at h;have hin:=inputsRight_w ey;have fin:∀b:Bool,(bif b then some (Sum.inr false) else Z64_q10 r)=some z->(z=Sum.inl ()/\∀f∈a::r,∀x∈f.FArgs.l,x.FHas=true->Z46_q x.FDefault=some true)\/z=Sum.inr false:=by
            intro b h;cases b with
            | true=>exact .inr (Option.some.inj h).symm
            | false =>
              rcases ih z h with ⟨h1,h2⟩|h1
              · exact .inl ⟨h1,fun f hf=>by rcases List.mem_cons.1 hf with rfl|hf; exact hin; exact h2 f hf⟩
              · exact .inr h1
          rcases guardE h with ⟨_,w,_,h⟩|⟨_,h⟩<;>rcases guardE h with ⟨_,u,_,h⟩|⟨_,h⟩<;>exact fin _ h
      · cases hf
theorem fieldsRight_w {s:Sl Z5}(h:Z64_q s=some true):∀f∈s.l,∀x∈f.FArgs.l,x.FHas=true->Z46_q x.FDefault=some true:=by
  unfold Z64_q at h;rcases condE h with ⟨_,h⟩|⟨_,h⟩
  · cases h
  · obtain⟨z,g,h⟩:=bindO_some h
    rcases fields_right _ _ g with ⟨_,h1⟩|rfl
    · exact h1
    · cases h
theorem def_args {t:TDef}(h:Z62_q t=some true):∀f∈t.FFields.l,∀x∈f.FArgs.l,x.FHas=true->Z46_q x.FDefault=some true:=by
  have nil:t.FFields.l.length=0->∀f∈t.FFields.l,∀x∈f.FArgs.l,x.FHas=true->Z46_q x.FDefault=some true:=fun e f hf=>by
    rw [List.length_eq_zero_iff] at e; rw [e] at hf; cases hf
  unfold Z62_q at h;simp only [Ab.on] at h;rcases guardE h with ⟨_,x5,_,h⟩|⟨_,h⟩<;>rcases condE h with ⟨_,h⟩|⟨_,h⟩;all_goals first
    | (cases h; done)
    | (cases e:Z62_q34 t.FImplements.l with
       | inr y=>rw [e] at h; have:=defs34 _ _ e; subst this; cases h
       | inl _ =>
         rw [e] at h;simp only at h;rcases condE h with ⟨_,h⟩|⟨_,h⟩
         · obtain⟨x15,g,h⟩:=bindO_some h
           simp at h; rw [h.1.1] at g; exact fieldsRight_w g
         · rcases condE h with ⟨_,h⟩|⟨_,h⟩
           · rcases guardE h with ⟨_,x,g,h⟩|⟨_,h⟩
             · simp at h; rw [h.1.1.2] at g; exact fieldsRight_w g
             · simp at h
           · rcases condE h with ⟨_,h⟩|⟨_,h⟩
             · rcases guardE h with ⟨_,x,g,h⟩|⟨_,h⟩<;>simp at h
               exact nil (by rw [h.1.1.2]; rfl)
             · rcases condE h with ⟨_,h⟩|⟨_,h⟩
               · rcases guardE h with ⟨_,x,g,h⟩|⟨_,h⟩<;>simp at h
                 exact nil (by rw [h.1.1.2]; rfl)
               · rcases condE h with ⟨_,h⟩|⟨_,h⟩
                 · rcases guardE h with ⟨_,x,g,h⟩|⟨_,h⟩<;>simp at h
                   exact nil (by rw [h.1.1.1.2]; rfl)
                 · cases h)
end Go.Proofs

namespace Go.Proofs
open Go Go.Ab
theorem gT {α β:Type}(o:Option α) (d:α) (k:α->Option β):guardO true o d k=o.bind k:=rfl
def flt (d:TDoc) (x:Z7) (p:Bs):List Z4:=bif x.FHas then(match Z23_q d x.FType x.FDefault zv with|some y=>bif decide (y.2=0) then [] else [Z4.mk 23 p]|none=>[]) else []
theorem flt_len (d:TDoc) (x:Z7) (p:Bs):(flt d x p).length<=1:=by
 unfold flt;cases x.FHas with
 | false=>simp
 | true =>
  cases Z23_q d x.FType x.FDefault zv with
  | none=>simp
  | some y =>
   simp only [cond_true];cases decide (y.2=0) with
   | true=>simp
   | false=>simp
def Good (d:TDoc) (x:Z7):Prop:=x.sz<=1048576/\(x.FHas=true->∃v w e,Z23_q d x.FType x.FDefault zv=some (v,e)/\Z99_q d x.FType x.FDefault zv=some (w,e))
theorem flat_le {α:Type}(g:α->List Z4) (h:∀x,(g x).length<=1):∀l:List α,(l.flatMap g).length<=l.length
 | []=>by simp
 | a::r=>by have:=flat_le g h r; have:=h a; simp only [List.flatMap_cons,List.length_append,List.length_cons]; omega
theorem one_t {d:TDoc}{x:Z7}(hx:Good d x) (p:Bs) (s:Sl Z4) (hs:s.l.length<=549755813888):∃t,Z22_q x p d s=some t/\t.l=s.l++flt d x p:=by
 unfold Z22_q flt;cases hh:x.FHas with
 | false=>exact⟨s,rfl,by simp⟩
 | true =>
  obtain⟨v,w,e,e1,_⟩:=hx.2 hh;have e1':Z23_q d x.FType x.FDefault (Z10.mk (0:Int) (0:Int) ([]:Bs) true ([]) (Sl.nil:Sl Bs))=some (v,e):=e1;rw [Bool.not_true,cond_false,e1',e1,Option.bind_some];simp only [cond_true];cases decide (e=0) with
  | true=>exact⟨s,rfl,by simp⟩
  | false=>simp only [Bool.not_false,cond_true,cond_false]; rw [appC_ok (by decide) (by show s.l.length+1<=_; omega)]; exact⟨_,rfl,rfl⟩
theorem name_le (x:Z7) (h:x.sz<=1048576):x.FName.length<=1048576:=by
 have h1:=x.sz_def; have h2:Bs.sz x.FName=x.FName.length+1:=rfl; omega
def atA (p n:Bs):Bs:=p++[40]++n++[41]
theorem t_args (d:TDoc) (x20:TDef) (x48:Z5) (h1:x20.FName.length<=1048576) (h2:x48.FName.length<=1048576):∀(l:List Z7) (s:Sl Z4),(∀x∈l,Good d x)->s.l.length+l.length<=549755813888 ->
  ∃t,Z21_q51 d x20 x48 l s=some t/\t.l=s.l++l.flatMap fun x=>flt d x (atA (x20.FName++[46]++x48.FName) x.FName):=by
 intro l;induction l with
 | nil=>intro s _ _; exact⟨s,rfl,by simp⟩
 | cons a r ih =>
  intro s hx hs;simp only [List.length_cons] at hs;have ha:=hx a (by simp);have hn:=name_le a ha.1;rw [Z21_q51];simp only [Ab.on];rw [catC_ok (by simp only [List.length_append,List.length_cons,List.length_nil]; omega),Option.bind_some,catC_ok (by simp only [List.length_append,List.length_cons,List.length_nil]; omega),Option.bind_some,catC_ok (by simp only [List.length_append,List.length_cons,List.length_nil]; omega),Option.bind_some,catC_ok (by simp only [List.length_append,List.length_cons,List.length_nil]; omega),Option.bind_some,catC_ok (by simp only [List.length_append,List.length_cons,List.length_nil]; omega),Option.bind_some]
  obtain⟨t,e1,e2⟩:=one_t ha (x20.FName++[46]++x48.FName++[40]++a.FName++[41]) s (by omega);rw [e1,Option.bind_some];obtain⟨u,e3,e4⟩:=ih t (fun x hx'=>hx x (by simp [hx'])) (by rw [e2,List.length_append]; have:=flt_len d a (x20.FName++[46]++x48.FName++[40]++a.FName++[41]); omega);exact⟨u,e3,by rw [e4,e2,List.flatMap_cons,List.append_assoc]; rfl⟩
theorem t_inputs (d:TDoc) (x20:TDef) (h1:x20.FName.length<=1048576):∀(l:List Z7) (s:Sl Z4),(∀x∈l,Good d x)->s.l.length+l.length<=549755813888 ->
  ∃t,Z21_q25 d x20 l s=some t/\t.l=s.l++l.flatMap fun x=>flt d x (x20.FName++[46]++x.FName):=by
 intro l;induction l with
 | nil=>intro s _ _; exact⟨s,rfl,by simp⟩
 | cons a r ih =>
  intro s hx hs;simp only [List.length_cons] at hs;have ha:=hx a (by simp);have hn:=name_le a ha.1;rw [Z21_q25];simp only [Ab.on];rw [catC_ok (by simp only [List.length_append,List.length_cons,List.length_nil]; omega),Option.bind_some,catC_ok (by simp only [List.length_append,List.length_cons,List.length_nil]; omega),Option.bind_some];obtain⟨t,e1,e2⟩:=one_t ha (x20.FName++[46]++a.FName) s (by omega)
  rw [e1,Option.bind_some];obtain⟨u,e3,e4⟩:=ih t (fun x hx'=>hx x (by simp [hx'])) (by rw [e2,List.length_append]; have:=flt_len d a (x20.FName++[46]++a.FName); omega);exact⟨u,e3,by rw [e4,e2,List.flatMap_cons,List.append_assoc]⟩
theorem r_loop (d:TDoc) (p o n:Bs) (h1:p.length<=4194304) (h2:o.length<=4) (h3:n.length<=4):∀(l:List Z7) (s:Sl Z4),(∀x∈l,Good d x)->s.l.length+l.length<=549755813888 ->
  ∃t,Z100_q7 d p o n l s=some t/\t.l=s.l++l.flatMap fun x=>flt d x (p++o++x.FName++n):=by
 intro l;induction l with
 | nil=>intro s _ _; exact⟨s,rfl,by simp⟩
 | cons a r ih =>
  intro s hx hs;simp only [List.length_cons] at hs;have ha:=hx a (by simp);have hn:=name_le a ha.1;rw [Z100_q7];simp only [Ab.on];have step:∃t,(bif (!a.FHas) then(some s) else((Z99_q d a.FType a.FDefault (Z10.mk (0:Int) (0:Int) ([]:Bs) true ([]) (Sl.nil:Sl Bs))).bind fun x23=>bif (!decide (x23.2=(0:Int))) then((catC p o).bind fun x26=>(catC x26 a.FName).bind fun x28=>(catC x28 n).bind fun x29=>(appC 24 s (⟨false,[(Z4.mk (23:Int) x29)]⟩:Sl Z4)).bind fun x30=>some x30) else(some s)))=some t/\t.l=s.l++flt d a (p++o++a.FName++n):=by
   unfold flt;cases hh:a.FHas with
   | false=>exact⟨s,rfl,by simp⟩
   | true =>
    obtain⟨v,w,e,e1,e2⟩:=ha.2 hh;have e2':Z99_q d a.FType a.FDefault (Z10.mk (0:Int) (0:Int) ([]:Bs) true ([]) (Sl.nil:Sl Bs))=some (w,e):=e2;rw [Bool.not_true,cond_false,e2',e1,Option.bind_some];simp only [cond_true];cases decide (e=0) with
    | true=>exact⟨s,rfl,by simp⟩
    | false =>
     simp only [Bool.not_false,cond_true,cond_false];rw [catC_ok (by omega),Option.bind_some,catC_ok (by simp only [List.length_append]; omega),Option.bind_some,catC_ok (by simp only [List.length_append]; omega),Option.bind_some,appC_ok (by decide) (by show s.l.length+1<=_; omega)];exact⟨_,rfl,rfl⟩
  obtain⟨t,e1,e2⟩:=step;rw [e1,Option.bind_some];obtain⟨u,e3,e4⟩:=ih t (fun x hx'=>hx x (by simp [hx'])) (by rw [e2,List.length_append]; have:=flt_len d a (p++o++a.FName++n); omega);exact⟨u,e3,by rw [e4,e2,List.flatMap_cons,List.append_assoc]⟩
theorem r_list (d:TDoc) (s:Sl Z7) (p o n:Bs) (h1:p.length<=4194304) (h2:o.length<=4) (h3:n.length<=4) (hx:∀x∈s.l,Good d x) (hs:s.l.length<=1048576):∃t,Z100_q d s p o n=some t/\t.l=s.l.flatMap fun x=>flt d x (p++o++x.FName++n):=by
 unfold Z100_q;obtain⟨t,e1,e2⟩:=r_loop d p o n h1 h2 h3 s.l (Sl.nil:Sl Z4) hx (by simp [Sl.nil]; omega);rw [e1,Option.bind_some];exact⟨t,rfl,by rw [e2]; simp [Sl.nil]⟩
def fF (d:TDoc) (t:TDef) (f:Z5):List Z4:=f.FArgs.l.flatMap fun x=>flt d x (atA (t.FName++[46]++f.FName) x.FName)
def fI (d:TDoc) (t:TDef):List Z4:=t.FInputs.l.flatMap fun x=>flt d x (t.FName++[46]++x.FName)
def fD (d:TDoc) (t:TDef):List Z4:=t.FFields.l.flatMap (fF d t)++fI d t
def GoodF (d:TDoc) (f:Z5):Prop:=f.sz<=1048576/\∀x∈f.FArgs.l,Good d x
def GoodD (d:TDoc) (t:TDef):Prop:=t.sz<=1048576/\(∀f∈t.FFields.l,GoodF d f)/\∀x∈t.FInputs.l,Good d x
theorem field_facts {d:TDoc}{f:Z5}(h:GoodF d f):f.FName.length<=1048576/\f.FArgs.l.length<=f.sz:=by
 have h1:=f.sz_def; have h2:Bs.sz f.FName=f.FName.length+1:=rfl;have h3:=Sl.len_le (f:=Z7.sz) f.FArgs (fun x=>x.pos);have h4:=h.1;exact⟨by omega,by omega⟩
theorem def_facts {d:TDoc}{t:TDef}(h:GoodD d t):t.FName.length<=1048576/\t.FInputs.l.length+(t.FFields.l.map Z5.sz).sum<=t.sz:=by
 have h1:=t.sz_def; have h2:Bs.sz t.FName=t.FName.length+1:=rfl;have h3:=Sl.len_le (f:=Z7.sz) t.FInputs (fun x=>x.pos);have h4:=h.1;have h5:Sl.sz Z5.sz t.FFields=1+(t.FFields.l.map Z5.sz).sum:=rfl;exact⟨by omega,by omega⟩
theorem fF_len {d:TDoc}{t:TDef}{f:Z5}(h:GoodF d f):(fF d t f).length<=f.sz:=by
 have:=flat_le (fun x:Z7=>flt d x (atA (t.FName++[46]++f.FName) x.FName)) (fun x=>flt_len _ _ _) f.FArgs.l;have:=(field_facts h).2;unfold fF; omega
theorem t_fields (d:TDoc) (t:TDef) (h1:t.FName.length<=1048576):∀(l:List Z5) (s:Sl Z4),(∀f∈l,GoodF d f)->s.l.length+(l.map Z5.sz).sum<=549755813888 ->
  ∃u,Z21_q39 d t l s=some u/\u.l=s.l++l.flatMap (fF d t):=by
 intro l;induction l with
 | nil=>intro s _ _; exact⟨s,rfl,by simp⟩
 | cons a r ih =>
  intro s hx hs;simp only [List.map_cons,List.sum_cons] at hs;have ha:=hx a (by simp);obtain⟨f1,f2⟩:=field_facts ha;rw [Z21_q39];simp only [Ab.on];obtain⟨u,e1,e2⟩:=t_args d t a h1 f1 a.FArgs.l s ha.2 (by omega);rw [e1,Option.bind_some];have hl:=fF_len (t:=t) ha;obtain⟨w,e3,e4⟩:=ih u (fun x hx'=>hx x (by simp [hx'])) (by rw [e2,List.length_append]; unfold fF at hl; omega);exact⟨w,e3,by rw [e4,e2,List.flatMap_cons,List.append_assoc]; rfl⟩
theorem r_fields (d:TDoc) (t:TDef) (h1:t.FName.length<=1048576):∀(l:List Z5) (s:Sl Z4),(∀f∈l,GoodF d f)->s.l.length+(l.map Z5.sz).sum<=549755813888 ->
  ∃u,Z98_q23 d t l s=some u/\u.l=s.l++l.flatMap (fF d t):=by
 intro l;induction l with
 | nil=>intro s _ _; exact⟨s,rfl,by simp⟩
 | cons a r ih =>
  intro s hx hs;simp only [List.map_cons,List.sum_cons] at hs;have ha:=hx a (by simp);obtain⟨f1,f2⟩:=field_facts ha;rw [Z98_q23];simp only [Ab.on];rw [catC_ok (by simp only [List.length_cons,List.length_nil]; omega),Option.bind_some,catC_ok (by simp only [List.length_append,List.length_cons,List.length_nil]; omega),Option.bind_some];obtain⟨u,e1,e2⟩:=r_list d a.FArgs (t.FName++[46]++a.FName) [40] [41] (by simp only [List.length_append,List.length_cons,List.length_nil]; omega) (by simp) (by simp) ha.2 (by have:=ha.1; omega)
  have hl:=fF_len (t:=t) ha;have e2':u.l=fF d t a:=e2;rw [e1,Option.bind_some,appC_ok (by decide) (by rw [e2']; omega),Option.bind_some];obtain⟨w,e3,e4⟩:=ih ⟨s.nl&&u.l.isEmpty,s.l++u.l⟩ (fun x hx'=>hx x (by simp [hx'])) (by show (s.l++u.l).length+_<=_; rw [e2',List.length_append]; omega);exact⟨w,e3,by rw [e4,e2',List.flatMap_cons,List.append_assoc]⟩
theorem t_defs (d:TDoc):∀(l:List TDef) (s:Sl Z4),(∀t∈l,GoodD d t)->s.l.length+(l.map TDef.sz).sum<=549755813888->∃u,Z21_q11 d l s=some u/\u.l=s.l++l.flatMap (fD d):=by
 intro l;induction l with
 | nil=>intro s _ _; exact⟨s,rfl,by simp⟩
 | cons a r ih =>
  intro s hx hs;simp only [List.map_cons,List.sum_cons] at hs;have ha:=hx a (by simp);obtain⟨f1,f2⟩:=def_facts ha;rw [Z21_q11];simp only [Ab.on];obtain⟨u,e1,e2⟩:=t_fields d a f1 a.FFields.l s ha.2.1 (by omega);have hfl:(a.FFields.l.flatMap (fF d a)).length<=(a.FFields.l.map Z5.sz).sum:=by
   have:∀l:List Z5,(∀f∈l,GoodF d f)->(l.flatMap (fF d a)).length<=(l.map Z5.sz).sum:=by
    intro l;induction l with
    | nil=>intro _; simp
    | cons b t ih2=>intro h; have:=ih2 fun f hf=>h f (by simp [hf]); have:=fF_len (t:=a) (h b (by simp)); simp only [List.flatMap_cons,List.length_append,List.map_cons,List.sum_cons]; omega
   exact this _ ha.2.1
  rw [e1,Option.bind_some];obtain⟨v,e3,e4⟩:=t_inputs d a f1 a.FInputs.l u ha.2.2 (by rw [e2,List.length_append]; omega);rw [e3,Option.bind_some];have hil:(fI d a).length<=a.FInputs.l.length:=flat_le _ (fun x=>flt_len _ _ _) _;obtain⟨w,e5,e6⟩:=ih v (fun x hx'=>hx x (by simp [hx'])) (by rw [e4,e2,List.length_append,List.length_append]; unfold fI at hil; omega);exact⟨w,e5,by rw [e6,e4,e2,List.flatMap_cons]; unfold fD fI; simp only [List.append_assoc]⟩
theorem r_defs (d:TDoc):∀(l:List TDef) (s:Sl Z4),(∀t∈l,GoodD d t)->s.l.length+(l.map TDef.sz).sum<=549755813888->∃u,Z98_q7 d l s=some u/\u.l=s.l++l.flatMap (fD d):=by
 intro l;induction l with
 | nil=>intro s _ _; exact⟨s,rfl,by simp⟩
 | cons a r ih =>
  intro s hx hs;simp only [List.map_cons,List.sum_cons] at hs;have ha:=hx a (by simp);have hsz:=ha.1;obtain⟨f1,f2⟩:=def_facts ha;rw [Z98_q7];simp only [Ab.on];obtain⟨u,e1,e2⟩:=r_fields d a f1 a.FFields.l s ha.2.1 (by omega);have hfl:(a.FFields.l.flatMap (fF d a)).length<=(a.FFields.l.map Z5.sz).sum:=by
   have:∀l:List Z5,(∀f∈l,GoodF d f)->(l.flatMap (fF d a)).length<=(l.map Z5.sz).sum:=by
    intro l;induction l with
    | nil=>intro _; simp
    | cons b t ih2=>intro h; have:=ih2 fun f hf=>h f (by simp [hf]); have:=fF_len (t:=a) (h b (by simp)); simp only [List.flatMap_cons,List.length_append,List.map_cons,List.sum_cons]; omega
   exact this _ ha.2.1
  rw [e1,Option.bind_some];obtain⟨v,e3,e4⟩:=r_list d a.FInputs a.FName [46] [] (by omega) (by simp) (by simp) ha.2.2 (by omega);have e4':v.l=fI d a:=by rw [e4]; unfold fI; simp only [List.append_nil]
  have hil:(fI d a).length<=a.FInputs.l.length:=flat_le _ (fun x=>flt_len _ _ _) _;rw [e3,Option.bind_some,appC_ok (by decide) (by rw [e4',e2,List.length_append]; omega),Option.bind_some];obtain⟨w,e5,e6⟩:=ih ⟨u.nl&&v.l.isEmpty,u.l++v.l⟩ (fun x hx'=>hx x (by simp [hx'])) (by show (u.l++v.l).length+_<=_; rw [e4',e2,List.length_append,List.length_append]; omega);exact⟨w,e5,by rw [e6,e4',e2,List.flatMap_cons]; unfold fD; simp only [List.append_assoc]⟩
theorem nB_le:nB+1<=1099511627000:=by unfold nB; omega
theorem good_of {d:TDoc}(h:Z60_q d=some true) (hw:d.wf) (hs:d.sz<=1048576):∀t∈d.FDefs.l,GoodD d t:=by
 have hD:=doc_ok h hw hs;have one:∀x:Z7,x.wf->x.sz<=1048576->(x.FHas=true->Z46_q x.FDefault=some true)->Good d x:=by
  intro x hxw hxs hl;refine⟨hxs,fun hh=>?_⟩;have hd:=x.sz_def;obtain⟨v,w,e,e1,e2,_⟩:=literal_rel (N:=nB) nB_le hD (va:=zv) (zv_rl.mono (by unfold nB; omega)) (sok_wraps hxw.2.1 (by omega)) (literal_rl (hl hh) hxw.2.2.2.1 (by omega));exact⟨v,w,e,e1,e2⟩
 intro t ht;have hr:=doc_right h t ht;have hts:=TDoc.def_le ht;have htw:=hw.1.2.2 t ht;have hd:=t.sz_def;refine⟨by omega,fun f hf=>?_,fun x hx=>one x (htw.2.2.2.2.2.2.1.2.2 x hx) (by have:=Sl.mem_le (f:=Z7.sz) hx; omega) (def_right hr x hx)⟩;have hfs:=Sl.mem_le (f:=Z5.sz) hf;have hfd:=f.sz_def;have hfw:f.wf:=htw.2.2.2.2.1.2.2 f hf;exact⟨by omega,fun x hx=>one x (hfw.2.1.2.2 x hx) (by have:=Sl.mem_le (f:=Z7.sz) hx; omega) (def_args hr f hf x hx)⟩
end Go.Proofs

namespace Go.Proofs
open Go Go.Ab
set_option maxRecDepth 100000 in
theorem awake17:Z36=some true:=by kernel_rfl
theorem fF_lenV (d:TDoc) (t:TDef) (f:Z5):(fF d t f).length<=f.sz:=by
 have h1:=fargs_len f;have h2:(fF d t f).length<=(f.FArgs.l.map fun _=>1).sum:=flatMap_len (fun _=>flt_len _ _ _) _;rw [sum_one] at h2; omega
theorem fD_lenV (d:TDoc) (t:TDef):(fD d t).length<=t.sz:=by
 have h1:=t.sz_def;have h2:=Sl.len_lt (f:=Z7.sz) t.FInputs Z7.pos;have h3:(fI d t).length<=(t.FInputs.l.map fun _=>1).sum:=flatMap_len (fun _=>flt_len _ _ _) _;rw [sum_one] at h3;have h4:(t.FFields.l.flatMap (fF d t)).length<=(t.FFields.l.map Z5.sz).sum:=flatMap_len (fF_lenV d t) _;have h5:Sl.sz Z5.sz t.FFields=1+(t.FFields.l.map Z5.sz).sum:=rfl;unfold fD;rw [List.length_append]; omega
theorem both2 {d:TDoc}(h:Z60_q d=some true) (hw:d.wf) (hs:d.sz<=1048576):∃a b,Z21_q d=some a/\Z98_q d=some b/\a.l=b.l/\a.l.length<=1048576:=by
 have hg:=good_of h hw hs;have hd:=d.sz_def;have h1:Sl.sz TDef.sz d.FDefs=1+(d.FDefs.l.map TDef.sz).sum:=rfl;obtain⟨a,e1,e2⟩:=t_defs d d.FDefs.l (Sl.nil:Sl Z4) hg (by simp only [Sl.nil,List.length_nil]; omega);obtain⟨b,e3,e4⟩:=r_defs d d.FDefs.l (Sl.nil:Sl Z4) hg (by simp only [Sl.nil,List.length_nil]; omega);refine⟨a,b, ?_, ?_,by rw [e2,e4], ?_⟩
 ·unfold Z21_q; rw [e1]; rfl
 ·unfold Z98_q; rw [e3]; rfl
 ·rw [e2];have:=flatMap_len (fD_lenV d) d.FDefs.l;show (List.length ([]++d.FDefs.l.flatMap (fD d)))<=_;rw [List.nil_append]; omega
theorem defsOkV {d:TDoc}(hs:d.sz<=1048576) (hw:d.wf):∀t∈d.FDefs.l,DefOkV t:=by
 have hD:=defsOk hs hw;have h0:=d.sz_def;have hb:∀s:Bs,Bs.sz s=s.length+1:=fun _=>rfl;intro t ht;have h1:=Sl.mem_le (f:=TDef.sz) ht;have h2:=t.sz_def;rw [hb] at h2;refine⟨by omega,fun f hf=>?_,fun m hm=>?_⟩
 ·have h3:=Sl.mem_le (f:=Z5.sz) hf;have h4:=f.sz_def;rw [hb] at h4;refine⟨by omega,fun a ha=>?_,((hD t ht).2.2.1 f hf).1⟩;have h5:=Sl.mem_le (f:=Z7.sz) ha;have h6:=a.sz_def;rw [hb] at h6;omega
 ·have h3:=Sl.mem_le (f:=Z8.sz) hm;have h4:=m.sz_def;rw [hb] at h4;omega
theorem faults11 {a b:Sl Z4}(h:a.l=b.l):∀(l:List Z4) (i:Nat),a.l.drop i=l->Z110_q11 b l i=some (Sum.inl ())
 | [],i,_=>by rw [Z110_q11]
 | x::r,i,hd=>by
  obtain⟨h1,h2⟩:=drop_nextS hd;rw [Z110_q11];simp only [on];rw [<- h,h2,Option.bind_some];simp only [decide_true,beq_self_eq_true,Bool.and_self,Bool.not_true,cond_false];exact faults11 h r (i+1) h1
theorem faults_eq {a b:Sl Z4}(h:a.l=b.l):Z110_q a b=some true:=by
 unfold Z110_q;rw [h,decide_eq_true rfl,Bool.not_true,cond_false,<- h,faults11 h a.l 0 rfl];rfl
theorem appFV {s r:Sl Z4}(h:s.l.length+r.l.length<=5000000000000):appC 24 s r=some ⟨s.nl&&r.l.isEmpty,s.l++r.l⟩:=by
 unfold appC; rw [if_pos]; unfold maxN; omega
theorem schemaExact_q (d:TDoc) (hs:d.sz<=1048576) (hw:d.wf):Z35_q d=some true:=by
 unfold Z35_q;obtain⟨b,eb⟩:=Z60_ok d hs;rw [eb,Option.bind_some];cases b
 ·rw [Bool.not_false,cond_true,awake17]; rfl
 rw [Bool.not_true,cond_false];have h0:=d.sz_def;have hl:=Sl.len_lt (f:=TDef.sz) d.FDefs TDef.pos;have hd:∀t∈d.FDefs.l,t.sz<=1048576:=fun t ht=>by have:=Sl.mem_le (f:=TDef.sz) ht; omega
 obtain⟨x4,e4,l4,n4⟩:=checkS_is hs true;obtain⟨n3,e3⟩:=rcheck_is (d:=d) hd (by omega) true (by rw [<- l4]; exact n4);obtain⟨x,y,ex,ey,exy,hx⟩:=both2 eb hw hs;have hf:=facesX_len hs;obtain⟨n1,f1⟩:=faces_is (d:=d) (by omega) (defsOkV hs hw) (by unfold maxF; omega);obtain⟨n2,f2⟩:=rfaces_is (d:=d) (by omega) (defsOkV hs hw) (by unfold maxF; omega);have key:∃a b,Z149_q d=some a/\Z111_q d=some b/\a.l=b.l:=by
  unfold Z149_q Z111_q;rw [e4,e3,Option.bind_some,Option.bind_some,l4];cases hc:decide ((0:Int)<(((checkX d true).length:Nat):Int))
  ·have hn:checkX d true=[]:=by
    have:=of_decide_eq_false hc;exact List.eq_nil_of_length_eq_zero (by omega)
   simp only [cond_false];rw [f1,f2,ex,ey,hn];simp only [Option.bind_some];rw [appFV (by show (facesX d).length+x.l.length<=_; omega),appFV (by show ([]:List Z4).length+(facesX d).length<=_; simp; omega)];simp only [Option.bind_some,List.nil_append];rw [appFV (by show (facesX d).length+y.l.length<=_; rw [<- exy]; omega)];exact⟨_,_,rfl,rfl,by show facesX d++x.l=facesX d++y.l; rw [exy]⟩
  ·exact⟨_,_,rfl,rfl,l4⟩
 obtain⟨a,b,ea,eb2,eab⟩:=key;rw [ea,eb2,Option.bind_some,Option.bind_some,faults_eq eab,Option.bind_some];simp only [guardO,if_true,awake17,Option.bind_some,Bool.and_self]
theorem schemaExact_eq (d:TDoc) (hs:d.sz<=1048576) (hw:d.wf):Z35 d=some true:=(Z35_eq d).trans (schemaExact_q d hs hw)
end Go.Proofs

namespace Go.Proofs.YtfmbgiahleepfadGreatDoor
open Go Go.Ab Go.RowKit Go.ChangeShapes Go.WideShapes Go.ChangeAt
variable {lou:Lou}
theorem bulkAll {H:Type}(l:List (DataW H)):Rows.uptoBulkAll l=(l.map Rows.uptoBulk).sum:=by
 induction l with
 | nil=>rfl
 | cons x r ih=>simp only [Rows.uptoBulkAll,List.map_cons,List.sum_cons,ih]
theorem bulkB {H:Type}:Bulk (H:=H) Rows.uptoBulk:=by
 refine⟨fun d=>?_,fun b=>by simp [Rows.uptoBulk],fun e s=>by simp only [Rows.uptoBulk,bulkAll]; omega,fun l=>by simp only [Rows.uptoBulk,bulkAll]; omega⟩;cases d with
 | lit l=>cases l<;>simp [Rows.uptoBulk]
 | nil=>simp [Rows.uptoBulk]
 | ptr d=>simp [Rows.uptoBulk]
 | slice elems spare=>simp [Rows.uptoBulk]
 | agg parts=>simp [Rows.uptoBulk]
 | iface t d=>simp [Rows.uptoBulk]
 | map entries=>simp [Rows.uptoBulk]
 | held h=>simp [Rows.uptoBulk]
theorem own:ownKnob Tryz.prog.godebug=none:=by kernel_rfl
theorem laid:laidOutB Tryz.prog=true:=by kernel_rfl
theorem bound {H:Type}{l:List (DataW H)}(hk:Rows.uptoSmall H l=true):Rows.uptoBulkAll l<=1048576:=of_decide_eq_true hk
theorem table {W:World}(h:laidMet Tryz.prog Rows.validateSchemaExactUptoRow.laid W):∃u fr,W.heap[0]?=some (.cells (Lib.pow10Tab.map fun z=>Value.int .u64 z).toArray u fr) :=
 tab_of (P:=Tryz.prog) (name := "internal/strconv.uint64pow10") (g:=0) (t:=260) (e:=251) (n:=20) (by kernel_rfl) (by kernel_rfl) (by kernel_rfl) (by kernel_rfl) (by kernel_rfl) (by kernel_rfl) h
  (by rw [show (Lib.tabData .u64 Lib.pow10Tab:DataW Unit)=Rows.laid_internal_strconv_uint64pow10 from(by kernel_rfl)]; exact .tail _ (.tail _ (.head _)))
theorem isTab (u:TypeId) (fr:Nat×Nat):IsTab Tryz.prog (.fix 0 (.cells (Lib.pow10Tab.map fun z=>Value.int .u64 z).toArray u fr)):=.of (by kernel_rfl)
theorem schemaExact_call (d:TDoc) (hz:d.sz<=1048576) (hw:d.wf) (u:TypeId) (fr:Nat×Nat):ACalls Tryz.prog 3 [.agg d.c] (hTab 0 (.cells (Lib.pow10Tab.map fun z=>Value.int .u64 z).toArray u fr)) fun r h'=>r=.a (.d (.bool true))/\h'=hTab 0 (.cells (Lib.pow10Tab.map fun z=>Value.int .u64 z).toArray u fr) :=
 Z35_walk (schemaExact_eq d hz hw) _ (gT:=0) rfl (isTab u fr)
end Go.Proofs.YtfmbgiahleepfadGreatDoor

