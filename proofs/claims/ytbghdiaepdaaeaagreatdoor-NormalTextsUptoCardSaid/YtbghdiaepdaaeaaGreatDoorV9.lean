import Derived.Test.YtbghdiaepdaaeaaGreatDoorV8
import Derived.Test.YtbghdiaepdaaeaaGreatDoorRows
set_option maxRecDepth 100000
set_option maxHeartbeats 2000000
set_option linter.unusedVariables false
set_option linter.unusedSimpArgs false
namespace Go.Proofs
open Go Go.Ab
theorem UR {d:ar}(b:d.sz<=1048576) (hw:d.wf){t:aB}(ht:t.aX.l.length<=1048576){v:af}(f:v.sz<=1048576) (g:v.wf):∃x e,ni d t v=some (x,e):=by
 obtain⟨⟨x,e⟩,h⟩:=UI (Kx hw b) (VW.of f g) ht;exact⟨x,e,h⟩
theorem KI {v w:af}{rec:af->af->Option Int}{k:Int->Int->Option Int}{n:Nat}(hk:∀z,k z 1=some z) (s:∀x∈v.av.l,∀y∈w.av.l,∃c,rec x y=some c/\(c=0↔iH n x y)) (hl:w.av.l.length<=1048576) :
  ∀(f i:Nat),i<=min v.av.l.length w.av.l.length->min v.av.l.length w.av.l.length-i<f ->
   ∃c,sK v w 0 k rec f (i:Int)=some c/\(c=0↔(v.av.l.length=w.av.l.length/\∀j,i<=j->j<v.av.l.length->AtR (iH n) v w j))
 | 0,_,_,h=>by omega
 | f+1,i,h1,G=>by
  have hm:(if ((w.av.l.length:Nat):Int)<((v.av.l.length:Nat):Int) then((w.av.l.length:Nat):Int) else((v.av.l.length:Nat):Int))=((min v.av.l.length w.av.l.length:Nat):Int):=by split<;>omega
  rw [sK,hm];by_cases hi:i<min v.av.l.length w.av.l.length
  ·have g:i<v.av.l.length:=by omega
   have k2:i<w.av.l.length:=by omega
   have B:cq v.av.l (i:Int)=some v.av.l[i]:=by unfold cq; rw [if_pos (by omega),Int.toNat_natCast,List.getElem?_eq_getElem g]
   have C:cq w.av.l (i:Int)=some w.av.l[i]:=by unfold cq; rw [if_pos (by omega),Int.toNat_natCast,List.getElem?_eq_getElem k2]
   have E:bY (i:Int) 1=some ((i+1:Nat):Int):=by rw [fU (by omega)]; rfl
   rw [dT (by omega:((i:Nat):Int)<((min v.av.l.length w.av.l.length:Nat):Int)),cond_true,DT,oB,DT,oB,show uw (v.aF.l.getD i []) (w.aF.l.getD i [])=some (Lib.compareBytes (v.aF.l.getD i []) (w.aF.l.getD i [])) from rfl,oB];have hc:=DR (v.aF.l.getD i []) (w.aF.l.getD i []);by_cases o:Lib.compareBytes (v.aF.l.getD i []) (w.aF.l.getD i [])=0
   ·rw [dT o,Bool.not_true,cond_false,B,oB,C,oB];obtain⟨c,r,p⟩:=s _ (List.getElem_mem g) _ (List.getElem_mem k2);rw [r,oB];by_cases c1:c=0
    ·rw [dT c1,Bool.not_true,cond_false,E,oB];obtain⟨z,F,z2⟩:=KI hk s hl f (i+1) (by omega) (by omega);refine⟨z,F,z2.trans ⟨fun⟨m,b⟩=>⟨m,fun j t q=>?_⟩,fun⟨m,b⟩=>⟨m,fun j t q=>b j (by omega) q⟩⟩⟩;rcases Nat.lt_or_ge i j with u|u
     ·exact b j u q
     ·obtain rfl:j=i:=by omega
      exact⟨hc.1 o,_,_,List.getElem?_eq_getElem g,List.getElem?_eq_getElem k2,p.1 c1⟩
    ·rw [dF c1,Bool.not_false,cond_true];refine⟨c,rfl,⟨fun h=>absurd h c1,fun⟨m,b⟩=>?_⟩⟩;obtain⟨_,x,y,g1,g2,g3⟩:=b i (Nat.le_refl _) g;rw [List.getElem?_eq_getElem g] at g1; rw [List.getElem?_eq_getElem k2] at g2;cases g1; cases g2;exact p.2 g3
   ·rw [dF o,Bool.not_false,cond_true];refine⟨_,rfl,⟨fun h=>absurd h o,fun⟨m,b⟩=>hc.2 (b i (Nat.le_refl _) g).1⟩⟩
  ·rw [dF (by omega:¬((i:Nat):Int)<((min v.av.l.length w.av.l.length:Nat):Int)),cond_false];obtain⟨c,r,p⟩:=DS ((v.av.l.length:Nat):Int) ((w.av.l.length:Nat):Int);unfold xx xw;rw [r,oB,fU (by omega),oB];refine⟨c,hk c,p.trans ⟨fun h=>⟨by omega,fun j t q=>by omega⟩,fun⟨h,_⟩=>by rw [h]⟩⟩
theorem US (n:Nat):∀v w:af,w.sz<n->w.sz<=1048576->∃c,iq n v w=some c/\(c=0↔iH n v w):=by
 induction n with
 | zero=>intro v w h; omega
 | succ n p =>
  intro v w hn q;have r:=w.bI;have hi:Sl.sz af.sz w.av=1+(w.av.l.map af.sz).sum:=rfl;have hl:=Sl.d_ (f:=af.sz) w.av (fun x=>x.pos);obtain⟨m,hm⟩:∃m,F0=m+1+1:=⟨F0-2,by rw [eD]⟩;rw [iq,show j8 v w (iq n) F0 0 0=j8 v w (iq n) (m+1+1) 0 0 from by rw [<- hm],j8,show decide ((0:Int)<1)=true from rfl,cond_true];by_cases c1:v.ak=w.ak
  ·rw [dT c1,Bool.not_true,cond_false];by_cases c2:v.bl=w.bl
   ·rw [dT c2,Bool.not_true,cond_false];by_cases c3:v.aV=w.aV
    ·rw [beq_iff_eq.mpr c3,Bool.not_true,cond_false];obtain⟨c,b,g⟩:=KI (v:=v) (w:=w) (rec:=iq n) (k:=j8 v w (iq n) (m+1)) (n:=n) (fun z=>by rw [j8,show decide ((1:Int)<1)=false from rfl,cond_false]; rfl)
      (fun x _ y o=>p x y (by have:=af.gW o; omega) (by have:=af.gW o; omega)) (by omega) F0 0 (Nat.zero_le _) (by rw [eD]; omega)
     exact⟨c,b,g.trans ⟨fun⟨i,j⟩=>⟨c1,c2,c3,i,j⟩,fun⟨_,_,_,i,j⟩=>⟨i,j⟩⟩⟩
    ·rw [show (v.aV==w.aV)=false from beq_eq_false_iff_ne.mpr c3,Bool.not_false,cond_true,show uw v.aV w.aV=some (Lib.compareBytes v.aV w.aV) from rfl,oB];exact⟨_,rfl,⟨fun h=>absurd ((DR _ _).1 h) c3,fun⟨_,_,h,_⟩=>absurd h c3⟩⟩
   ·obtain⟨c,b,g⟩:=DS v.bl w.bl;rw [dF c2,Bool.not_false,cond_true,b,oB];exact⟨c,rfl,⟨fun h=>absurd (g.1 h) c2,fun⟨_,h,_⟩=>absurd h c2⟩⟩
  ·obtain⟨c,b,g⟩:=DS v.ak w.ak;rw [dF c1,Bool.not_false,cond_true,b,oB];exact⟨c,rfl,⟨fun h=>absurd (g.1 h) c1,fun⟨h,_⟩=>absurd h c1⟩⟩
theorem DY {v w:af}{rec:af->af->Option Int}{n:Nat}(q:∀x∈v.av.l,∀y∈w.av.l,∃c,rec x y=some c/\(c=0↔iH n x y)) (hl:w.av.l.length<=1048576) :
  ∀(f i:Nat) (c:Int),i<=min v.av.l.length w.av.l.length->min v.av.l.length w.av.l.length-i<f ->
   ∃z,ox v w rec f c (i:Int)=some z/\(z=0↔(c=0/\v.av.l.length=w.av.l.length/\∀j,i<=j->j<v.av.l.length->AtR (iH n) v w j))
 | 0,_,_,_,h=>by omega
 | f+1,i,c,h1,I=>by
  rw [ox];by_cases hc:c=0
  ·rw [dT hc,cond_true];by_cases hi:i<min v.av.l.length w.av.l.length
   ·have b:i<v.av.l.length:=by omega
    have k2:i<w.av.l.length:=by omega
    have E:cq v.av.l (i:Int)=some v.av.l[i]:=by unfold cq; rw [if_pos (by omega),Int.toNat_natCast,List.getElem?_eq_getElem b]
    have F:cq w.av.l (i:Int)=some w.av.l[i]:=by unfold cq; rw [if_pos (by omega),Int.toNat_natCast,List.getElem?_eq_getElem k2]
    have t:bY (i:Int) 1=some ((i+1:Nat):Int):=by rw [fU (by omega)]; rfl
    have g:(decide (((v.av.l.length:Nat):Int)<=(i:Int))||decide (((w.av.l.length:Nat):Int)<=(i:Int)))=false:=by
     rw [Bool.or_eq_false_iff,decide_eq_false_iff_not,decide_eq_false_iff_not]; omega
    rw [g,cond_false,KB,oB,KB,oB,Ib,oB];have hk:=Kz (v.aF.l.getD i []) (w.aF.l.getD i []);by_cases m:ow (v.aF.l.getD i []) (w.aF.l.getD i [])=0
    ·rw [dT m,cond_true,E,oB,F,oB];obtain⟨d,G,u⟩:=q _ (List.getElem_mem b) _ (List.getElem_mem k2);rw [G,oB];unfold su;rw [t,oB];obtain⟨z,r,z2⟩:=DY q hl f (i+1) d (by omega) (by omega);refine⟨z,r,z2.trans ⟨fun⟨s,o,k⟩=>⟨hc,o,fun j B p=>?_⟩,fun⟨_,o,k⟩=>⟨?_,o,fun j B p=>k j (by omega) p⟩⟩⟩
     ·rcases Nat.lt_or_ge i j with C|C
      ·exact k j C p
      ·obtain rfl:j=i:=by omega
       exact⟨hk.1 m,_,_,List.getElem?_eq_getElem b,List.getElem?_eq_getElem k2,u.1 s⟩
     ·obtain⟨_,x,y,g1,g2,g3⟩:=k i (Nat.le_refl _) b;rw [List.getElem?_eq_getElem b] at g1; rw [List.getElem?_eq_getElem k2] at g2;cases g1; cases g2;exact u.2 g3
    ·rw [dF m,cond_false];unfold su;rw [t,oB];obtain⟨z,r,z2⟩:=DY q hl f (i+1) (ow (v.aF.l.getD i []) (w.aF.l.getD i [])) (by omega) (by omega);exact⟨z,r,z2.trans ⟨fun⟨s,_⟩=>absurd s m,fun⟨_,o,k⟩=>absurd (hk.2 (k i (Nat.le_refl _) b).1) m⟩⟩
   ·have g:(decide (((v.av.l.length:Nat):Int)<=(i:Int))||decide (((w.av.l.length:Nat):Int)<=(i:Int)))=true:=by
     rw [Bool.or_eq_true,decide_eq_true_eq,decide_eq_true_eq]; omega
    rw [g,cond_true,BT,oB];have H:=DU ((v.av.l.length:Nat):Int) ((w.av.l.length:Nat):Int);exact⟨_,rfl,H.trans ⟨fun h=>⟨hc,by omega,fun j B p=>by omega⟩,fun⟨_,h,_⟩=>by rw [h]⟩⟩
  ·rw [dF hc,cond_false];exact⟨c,rfl,⟨fun h=>absurd h hc,fun⟨h,_⟩=>h⟩⟩
theorem UT (n:Nat):∀v w:af,w.sz<n->w.sz<=1048576->∃c,iG n v w=some c/\(c=0↔iH n v w):=by
 induction n with
 | zero=>intro v w h; omega
 | succ n o =>
  intro v w hn p;have q:=w.bI;have hi:Sl.sz af.sz w.av=1+(w.av.l.map af.sz).sum:=rfl;have hl:=Sl.d_ (f:=af.sz) w.av (fun x=>x.pos);have i:∀c:Int,∃z,uk v w (iG n) c=some z/\(z=0↔(c=0/\v.av.l.length=w.av.l.length/\∀j,0<=j->j<v.av.l.length->AtR (iH n) v w j)):=fun c =>
   DY (v:=v) (w:=w) (rec:=iG n) (n:=n) (fun x _ y k=>o x y (by have:=af.gW k; omega) (by have:=af.gW k; omega)) (by omega) F0 0 c (Nat.zero_le _) (by rw [eD]; omega)
  have m:∀c:Int,∃z,sv v w (iG n) c=some z/\(z=0↔(c=0/\v.aV=w.aV/\v.av.l.length=w.av.l.length/\∀j,0<=j->j<v.av.l.length->AtR (iH n) v w j)):=by
   intro c;unfold sv;by_cases hc:c=0
   ·rw [dT hc,cond_true,Ib,oB];obtain⟨z,g,z2⟩:=i (ow v.aV w.aV);exact⟨z,g,z2.trans (by rw [Kz]; exact⟨fun⟨a,b⟩=>⟨hc,a,b⟩,fun⟨_,a,b⟩=>⟨a,b⟩⟩)⟩
   ·rw [dF hc,cond_false];obtain⟨z,g,z2⟩:=i c;exact⟨z,g,z2.trans ⟨fun⟨a,_⟩=>absurd a hc,fun⟨a,_⟩=>absurd a hc⟩⟩
  rw [iG,BT,oB];have hk:=DU v.ak w.ak;have hn:=DU v.bl w.bl;by_cases c1:ov v.ak w.ak=0
  ·rw [dT c1,cond_true,BT,oB];obtain⟨z,g,z2⟩:=m (ov v.bl w.bl);exact⟨z,g,z2.trans ⟨fun⟨a,b,c,d⟩=>⟨hk.1 c1,hn.1 a,b,c,d⟩,fun⟨_,a,b,c,d⟩=>⟨hn.2 a,b,c,d⟩⟩⟩
  ·rw [dF c1,cond_false];obtain⟨z,g,z2⟩:=m (ov v.ak w.ak);exact⟨z,g,z2.trans ⟨fun⟨a,_⟩=>absurd a c1,fun⟨a,_⟩=>absurd (hk.2 a) c1⟩⟩
theorem UU {v w:af}(hw:w.sz<=1048576):∃b,sM v w=some b/\(b=true↔iH F0 v w):=by
 obtain⟨c,f,g⟩:=US F0 v w (by rw [eD]; omega) hw;exact⟨decide (c=0),by unfold sM Cj; rw [f]; rfl,by rw [decide_eq_true_iff]; exact g⟩
theorem KJ {v w:af}(hw:w.sz<=1048576):∃b,qh v w=some b/\(b=true↔iH F0 v w):=by
 obtain⟨c,f,g⟩:=UT F0 v w (by rw [eD]; omega) hw;exact⟨decide (c=0),by unfold qh B1; rw [f]; rfl,by rw [decide_eq_true_iff]; exact g⟩
theorem fI {α:Type}(l:List α) (i:Nat):cq l (i:Int)=l[i]?:=by unfold cq; rw [if_pos (by omega)]; simp
theorem gS {β:Type}(c:Bool) (z:Bool) (k:Bool->Option β):aQ c (some z) false k=k (c&&z):=by cases c<;>rfl
theorem DZ {p x:aj}(h:x∈p.aK.l):x.sz<p.sz:=by
 have h1:=p.bI; have b:=Sl.dy (f:=aj.sz) h; omega
structure oP (d:ar):Prop where
 r:jN d=some true
 s:d.sz<=1048576
 w:d.wf
 n:(d.aD.l.map az.ai).Nodup
 f:∀t∈d.aD.l,∀f∈t.br.l,iW Z8.ai f.aG.l
theorem oP.len {d:ar}(h:oP d):d.aD.l.length<=1048576:=by
 have h1:=d.bI; have b:=Sl.d_ (f:=az.sz) d.aD az.pos; have g:=h.s; omega
def yp (b:Bool):Unit ⊕ Bool:=if b then Sum.inl () else Sum.inr false
theorem D0:∀(k:Nat) (b:Int) (l:List aj),(l.map aj.sz).sum<k->0<=b->b+k<=9223372036854775807->∃xs,gU k b l=some xs/\xs.length<=(l.map aj.sz).sum
 | 0,_,_,h,_,_=>by omega
 | k+1,b,[],_,_,_=>⟨[],rfl,Nat.zero_le _⟩
 | k+1,b,p::r,h,h0,h1=>by
  simp only [List.map_cons,List.sum_cons] at h ⊢;have g:=p.bI;have hi:Sl.sz aj.sz p.aK=1+(p.aK.l.map aj.sz).sum:=rfl;have i:=p.pos;have j:=Bs.gH p.bn;obtain⟨m,f,o⟩:=D0 k (b+1) p.aK.l (by omega) (by omega) (by omega);obtain⟨q,f1,f2⟩:=D0 k b r (by omega) h0 (by omega);rw [gU,fU (by omega),oB,f,oB,f1];exact⟨_,rfl,by simp; omega⟩
theorem KK:∀(r:List aj) (k:Nat) (b:Int) (xs:List Int),gU k b r=some xs->r.length<=xs.length
 | [],_,_,_,_=>Nat.zero_le _
 | _::_,0,_,_,h=>by cases h
 | p::r,k+1,b,xs,h=>by
  rw [gU] at h;obtain⟨i,h1,h⟩:=cS h;obtain⟨j,l,h⟩:=cS h;obtain⟨f,g,h⟩:=cS h;cases h;have:=KK r k b f g;simp; omega
theorem KL:∀(n:Nat) (l:Sl aj) (f:Int) (k:Nat) (xs:List Int),(∀x∈l.l,x.sz<n)->gU k f l.l=some xs->xs.length<=1073741824->∀m,n<m->j9 m l=some ((xs.length:Nat):Int)
 | n,l,f,k,xs,hl,hx,g,m,hm=>by
  obtain⟨m1,rfl⟩:∃m1,m=m1+1:=⟨m-1,by omega⟩;have loop:∀(r:List aj) (k:Nat) (xs:List Int) (s:Nat),(∀x∈r,x∈l.l)->gU k f r=some xs->s+xs.length<=4294967296->xs.length<=1073741824->∃t:Nat,oI (j9 m1) r (s:Int)=some ((s+t:Nat):Int)/\xs.length=r.length+t:=by
   intro r;induction r with
   | nil =>
    intro k xs s _ hx _ _;cases k with
    | zero=>cases hx
    | succ k=>cases hx; exact⟨0,rfl,rfl⟩
   | cons p r o =>
    intro k xs s hr hx q g;cases k with
    | zero=>cases hx
    | succ k =>
     rw [gU] at hx;obtain⟨u,h1,hx⟩:=cS hx;obtain⟨b,v,hx⟩:=cS hx;obtain⟨w,y,hx⟩:=cS hx;cases hx;simp only [List.length_cons,List.length_append] at q g ⊢;have hc:j9 m1 p.aK=some ((b.length:Nat):Int):=by
      cases n with
      | zero=>have:=hl p (hr p List.mem_cons_self); omega
      | succ n=>exact KL n p.aK u k b (fun x hx=>by have:=DZ hx; have:=hl p (hr p List.mem_cons_self); omega) v (by omega) m1 (by omega)
     rw [oI];simp only [Ab.on,hc,oB];rw [fU (by omega),oB];obtain⟨t,i,j⟩:=o k w (s+b.length) (fun x hx=>hr x (List.mem_cons_of_mem _ hx)) y (by omega) (by omega);exact⟨b.length+t,by rw [show ((s:Nat):Int)+((b.length:Nat):Int)=((s+b.length:Nat):Int) by omega,i]; congr 1; omega,by omega⟩
  obtain⟨t,i,j⟩:=loop l.l k xs l.l.length (fun _ h=>h) hx (by have:=KK l.l k f xs hx; omega) g;rw [j9,i,oB];simp only [Ab.on];rw [j]
theorem UW {t:az}(h:gQ t=some true):bQ t.ai=true:=by
 unfold gQ at h;simp only [Ab.on] at h;cases e:bQ t.ai with
 | true=>rfl
 | false =>
  rw [e] at h;simp [aQ] at h
theorem UX {s:Bs}(h:bQ s=true):s≠[]:=by
 rintro rfl;exact absurd h (by decide +kernel)
theorem UY {d:ar}(hw:d.wf) (i:d.sz<=1048576):∃b,rV d=some b/\(b=true->oP d):=by
 have no:∀p:Prop,∃b,some false=some b/\(b=true->p):=fun _=>⟨false,rfl,fun h=>by cases h⟩;obtain⟨s,w⟩:=Ux 600 d (by omega);obtain⟨x,j⟩:=Tz d (by omega);unfold rV;rw [w,oB,j];cases decide (s<=(600:Int)) with
 | false=>exact no _
 | true =>
  cases x with
  | false=>exact no _
  | true =>
   obtain⟨g,m,G⟩:=TW i true;have key:∃r,rU d=some r/\(r.l=[]->oP d):=by
    unfold rU;rw [m,oB];by_cases h0:g.l.length=0
    ·obtain⟨o,y,H⟩:=T_ i (UO j);obtain⟨z,B,I⟩:=UJ hw i;have hx:=List.eq_nil_of_length_eq_zero h0;obtain⟨v,ev,J⟩:∃v,bp 24 g o=some v/\v.l.length=g.l.length+o.l.length:=⟨_,gG (by decide) (by omega),by simp⟩;obtain⟨u,C⟩:∃u,bp 24 v z=some u:=⟨_,gG (by decide) (by omega)⟩;rw [show decide ((0:Int)<((g.l.length:Nat):Int))=false from dF (by omega),cond_false,y,oB,ev,oB,B,oB,C]
     refine⟨u,rfl,fun _=>?_⟩;obtain⟨c1,c2⟩:=TH m hx;refine⟨j,i,hw, ?_,fun t ht f k=>?_⟩
     ·unfold iW at c1;exact List.pairwise_map.2 c1
     ·obtain⟨E,_⟩:=TL (uN j t ht);rcases E with q|q
      ·exact((c2 t ht).1 q).2 f k
      ·rw [q] at k; cases k
    ·rw [show decide ((0:Int)<((g.l.length:Nat):Int))=true from dT (by omega),cond_true];exact⟨g,rfl,fun h=>absurd (by rw [h]; rfl) h0⟩
   obtain⟨r,F,k2⟩:=key;simp only [aQ,if_true,oB,Bool.and_self,F];by_cases hr:r.l.length=0
   ·exact⟨true,by rw [hr]; rfl,fun _=>k2 (List.eq_nil_of_length_eq_zero hr)⟩
   ·exact⟨false,by rw [dF (by omega:¬((r.l.length:Nat):Int)=0)]; rfl,fun h=>by cases h⟩
theorem kg {p:UInt8->Prop}(h:∀i:Fin 256,p (UInt8.ofNat i.val)) (c:UInt8):p c:=by
 have:=h ⟨c.toNat,c.toNat_lt⟩
 simpa using this
def hx (n:Nat):UInt8:=if n<10 then UInt8.ofNat (48+n) else UInt8.ofNat (87+n)
def gh (c:UInt8):Bs:=if c=34 then [92,34] else if c=92 then [92,92] else if c=10 then [92,110] else if c=13 then [92,114] else if c=9 then [92,116] else if 32<=c.toNat/\c.toNat<=126 then [c] else [92,117,48,48,hx (c.toNat / 16),hx (c.toNat % 16)]
def qt (s:Bs):Bs:=34::(s.flatMap gh++[34])
theorem D1 (c:UInt8):(gh c).length<=6:=by
 unfold gh; (repeat' split);all_goals simp
theorem D2 (s:Bs):(s.flatMap gh).length<=6*s.length:=by
 induction s with
 | nil=>simp
 | cons a r b=>have:=D1 a; simp only [List.flatMap_cons,List.length_append,List.length_cons]; omega
theorem KM (s:Bs):(qt s).length<=6*s.length+2:=by have:=D2 s; simp only [qt,List.length_append,List.length_cons,List.length_nil]; omega
theorem UZ (c:UInt8):uJ ((c.toNat:Nat):Int)=some (gh c):=by
 revert c
 apply kg
 decide +kernel
theorem U0:∀(s:Bs) (o:Bs),o.length+6*s.length<=1099511627776->nk s o=some (o++s.flatMap gh):=by
 intro s;induction s with
 | nil=>intro o _; simp [nk]
 | cons a r b =>
  intro o h;have:=D1 a;simp only [List.length_cons] at h;rw [nk];simp only [Ab.on];rw [UZ,oB,cM (by omega),oB,b _ (by simp; omega)];simp
theorem KN (s:Bs) (h:s.length<=1048576):nq s=some (qt s):=by
 have b:=D2 s;unfold nq;rw [U0 _ _ (by simp; omega),oB];simp only [Ab.on];rw [cM (by simp only [List.length_append,List.length_cons,List.length_nil]; omega)];simp [qt]
def bb (l:Bs):bx:=⟨true,⟨false,l.map fun b=>(b.toNat:Int)⟩⟩
theorem KO (l:Bs):(bb l).bR.l.length=l.length:=by simp [bb]
theorem oQ (l:Bs) (c:UInt8) (h:l.length<=1099511627000):iV (bb l) ((c.toNat:Nat):Int)=some ((),bb (l++[c])):=by
 unfold iV uo;rw [oB,gG (by decide) (by show (bb l).bR.l.length+1<=_; rw [KO]; omega),oB];simp [bb]
theorem lp (l s:Bs) (h:l.length+s.length<=1099511627000):∃k,fW (bb l) s=some (k,(),bb (l++s)):=by
 unfold fW uo;rw [oB,gG (by decide) (by show (bb l).bR.l.length+_<=_; rw [KO,NR]; omega),oB];exact⟨(s.length:Nat),by simp [bb,pO]⟩
theorem D3 (l:Bs) (h:l≠[]):qi (bb l)=some l:=by
 unfold qi tJ;have h1:(bb l).bR.l.all (fun n=>decide (0<=n/\n<256))=true:=by
  rw [List.all_eq_true];intro x hx;obtain⟨b,_,rfl⟩:=List.mem_map.1 hx;have:=b.toNat_lt;exact dT ⟨by omega,by omega⟩
 rw [if_pos ⟨h1,.inr ⟨rfl,by simp [bb,h]⟩⟩];have:fK (bb l).bR=l:=by
  unfold fK bb;rw [List.map_map];conv=>rhs; rw [<- List.map_id l]
  refine List.map_congr_left fun b _=>?_;simp
 rw [this]
theorem U1 (c:UInt8):cq ([48,49,50,51,52,53,54,55,56,57,97,98,99,100,101,102]:Bs) (Int.fdiv ((c.toNat:Nat):Int) (2 ^ (min (Int.toNat 4) (IntKind.bits .u8))))=some (hx (c.toNat / 16)):=by
 revert c
 apply kg
 decide +kernel
theorem U2 (c:UInt8):cq ([48,49,50,51,52,53,54,55,56,57,97,98,99,100,101,102]:Bs) (IntKind.wrap .u8 ((BitVec.ofInt (IntKind.bits .u8) ((c.toNat:Nat):Int) &&& BitVec.ofInt (IntKind.bits .u8) (15:Int)).toNat:Int))=some (hx (c.toNat % 16)):=by
 revert c
 apply kg
 decide +kernel
theorem uR {c d:UInt8}:decide (((c.toNat:Nat):Int)=((d.toNat:Nat):Int))=decide (c=d):=by
 by_cases h:c=d
 ·subst h; simp
 ·rw [dF h,dF];intro e; exact h (UInt8.toNat_inj.1 (by omega))
theorem U3:∀(s:Bs) (o:Bs),o.length+6*s.length<=1099511626000->k8 s (bb o)=some (bb (o++s.flatMap gh)):=by
 intro s;induction s with
 | nil=>intro o _; simp [k8]
 | cons a r g =>
  intro o h;have q:=D1 a;simp only [List.length_cons] at h;have fin:∀x:Bs,x=gh a->k8 r (bb (o++x))=some (bb (o++(a::r).flatMap gh)):=by
   rintro _ rfl;rw [g _ (by simp; omega)]; simp
  have i:=uR (c:=a) (d:=34); have j:=uR (c:=a) (d:=92); have l:=uR (c:=a) (d:=10); have m:=uR (c:=a) (d:=13); have p:=uR (c:=a) (d:=9);rw [k8];simp only [Ab.on];rw [show (34:Int)=(((34:UInt8).toNat:Nat):Int) from rfl,i,show (92:Int)=(((92:UInt8).toNat:Nat):Int) from rfl,j,show (10:Int)=(((10:UInt8).toNat:Nat):Int) from rfl,l,show (13:Int)=(((13:UInt8).toNat:Nat):Int) from rfl,m,show (9:Int)=(((9:UInt8).toNat:Nat):Int) from rfl,p]
  by_cases c1:a=34
  ·rw [dT c1,cond_true,cond_true,oQ _ _ (by omega),oB,oQ _ _ (by simp; omega),oB,oB];simp only [List.append_assoc];exact fin _ (by rw [c1]; rfl)
  rw [dF c1,cond_false];by_cases c2:a=92
  ·rw [dT c2,cond_true,oQ _ _ (by omega),oB,oQ _ _ (by simp; omega),oB,oB];simp only [List.append_assoc];exact fin _ (by rw [c2]; rfl)
  rw [dF c2,cond_false];by_cases c3:a=10
  ·obtain⟨k,e⟩:=lp o [92,110] (by simp; omega);rw [dT c3,cond_true,e,oB,oB];exact fin _ (by rw [c3]; rfl)
  rw [dF c3,cond_false];by_cases b:a=13
  ·obtain⟨k,e⟩:=lp o [92,114] (by simp; omega);rw [dT b,cond_true,e,oB,oB];exact fin _ (by rw [b]; rfl)
  rw [dF b,cond_false];by_cases c5:a=9
  ·obtain⟨k,e⟩:=lp o [92,116] (by simp; omega);rw [dT c5,cond_true,e,oB,oB];exact fin _ (by rw [c5]; rfl)
  rw [dF c5,cond_false];have he:gh a=if 32<=a.toNat/\a.toNat<=126 then [a] else [92,117,48,48,hx (a.toNat / 16),hx (a.toNat % 16)]:=by
   unfold gh; rw [if_neg c1,if_neg c2,if_neg c3,if_neg b,if_neg c5]
  by_cases f:32<=a.toNat/\a.toNat<=126
  ·rw [show ((decide ((32:Int)<=((a.toNat:Nat):Int)))&&(decide (((a.toNat:Nat):Int)<=(126:Int))))=true by simp; omega,cond_true,oQ _ _ (by omega),oB,oB];exact fin _ (by rw [he,if_pos f])
  ·rw [show ((decide ((32:Int)<=((a.toNat:Nat):Int)))&&(decide (((a.toNat:Nat):Int)<=(126:Int))))=false by simp; omega,cond_false];obtain⟨k,e⟩:=lp o [92,117,48,48] (by simp; omega);rw [e,oB,U1,oB,oQ _ _ (by simp; omega),oB,U2,oB,oQ _ _ (by simp; omega),oB,oB];simp only [List.append_assoc];exact fin _ (by rw [he,if_neg f]; rfl)
theorem KP (s:Bs) (h:s.length<=1048576):oy s=some (qt s):=by
 have b:=D2 s;unfold oy;have h0:iV bx.zero (34:Int)=some ((),bb [34]):=by rfl
 rw [h0,oB,U3 _ _ (by simp; omega),oB];simp only [Ab.on];rw [show (34:Int)=(((34:UInt8).toNat:Nat):Int) from rfl,oQ _ _ (by simp only [List.length_append,List.length_cons,List.length_nil]; omega),oB,D3 _ (by simp)];simp [qt]
def cZ:Bs:=[44,32]
mutual
def wr:af->Bs
 | .mk k i t _ items keys=>if k=0 then [110,117,108,108] else if k=1 then(if i=0 then [102,97,108,115,101] else [116,114,117,101]) else if k=2 then Lib.itoa i else if k=3 then qt t else if k=4 then t else if k=7 then 36::t else
  if k=5 then 91::(Lib.join (sZ items) cZ++[93]) else if k=6 then 123::(Lib.join (List.zipWith (fun a b=>a++[58,32]++b) keys.l (sZ items)) cZ++[125]) else []
def sZ:List af->List Bs
 | []=>[]
 | v::r=>wr v::sZ r
end
theorem U4 (l:List af):sZ l=l.map wr:=by
 induction l with
 | nil=>rw [sZ]; rfl
 | cons a r b=>rw [sZ,b]; rfl
def eS (a b:Bs):Bs:=a++[58,32]++b
theorem uS (v:af):wr v=if v.ak=0 then [110,117,108,108] else if v.ak=1 then(if v.bl=0 then [102,97,108,115,101] else [116,114,117,101]) else if v.ak=2 then Lib.itoa v.bl else if v.ak=3 then qt v.aV else if v.ak=4 then v.aV else if v.ak=7 then 36::v.aV else
  if v.ak=5 then 91::(Lib.join (v.av.l.map wr) cZ++[93]) else if v.ak=6 then 123::(Lib.join (List.zipWith eS v.aF.l (v.av.l.map wr)) cZ++[125]) else []:=by
 cases v with
 | mk k i t nl items keys =>
  rw [wr];simp only [af.ak,af.bl,af.aV,af.av,af.aF,U4];rfl
theorem U5 (r:List Bs):(Lib.joinTail cZ r).length=(r.map fun x=>x.length+2).sum:=by
 induction r with
 | nil=>rfl
 | cons a r b =>
  have:Lib.joinTail cZ (a::r)=cZ++a++Lib.joinTail cZ r:=by simp [Lib.joinTail]
  have f:cZ.length=2:=rfl;rw [this,List.length_append,List.length_append,b,List.map_cons,List.sum_cons]; omega
theorem oS (l:List Bs):(Lib.join l cZ).length<=(l.map fun x=>x.length+2).sum:=by
 cases l with
 | nil=>rw [Lib.join_nil]; simp
 | cons a r=>rw [Lib.join_cons]; simp only [List.length_append,U5,List.map_cons,List.sum_cons]; omega
theorem iN {α:Type}(f g:α->Nat):∀(l:List α),(∀x∈l,f x<=g x)->(l.map f).sum<=(l.map g).sum
 | [],_=>by simp
 | a::r,h=>by have:=h a (by simp); have:=iN f g r fun x hx=>h x (by simp [hx]); simp only [List.map_cons,List.sum_cons]; omega
theorem yq:∀(f:List Bs) (ws:List Bs),((List.zipWith eS f ws).map fun x=>x.length+2).sum<=(f.map Bs.sz).sum+(ws.map fun x=>x.length+4).sum
 | [],_=>by simp
 | _::_,[]=>by simp
 | a::r,b::t=>by
  have:=yq r t;have g:(eS a b).length=a.length+2+b.length:=by simp [eS]; omega
  have i:Bs.sz a=a.length+1:=rfl;simp only [List.zipWith_cons_cons,List.map_cons,List.sum_cons,g,i]; omega
theorem qz {α:Type}(f:α->Nat) (k:Nat) (l:List α):(l.map fun x=>k*f x).sum=k*(l.map f).sum:=by
 induction l with
 | nil=>simp
 | cons a r b=>simp only [List.map_cons,List.sum_cons,b,Nat.mul_add]
theorem count_le (l:List af):l.length<=(l.map af.sz).sum:=by
 induction l with
 | nil=>simp
 | cons a r b=>have:=a.pos; simp only [List.length_cons,List.map_cons,List.sum_cons]; omega
theorem yt (n:Nat):∀v:af,v.sz<n->v.wf->(wr v).length+4<=32*v.sz:=by
 induction n with
 | zero=>intro v h; omega
 | succ n f =>
  intro v hn hw;have g:=v.bI;have ht:Bs.sz v.aV=v.aV.length+1:=rfl;have hk:Sl.sz Bs.sz v.aF=1+(v.aF.l.map Bs.sz).sum:=rfl;have hi:Sl.sz af.sz v.av=1+(v.av.l.map af.sz).sum:=rfl;have b:=(af.jK v).1 hw;have hit:((v.av.l.map wr).map fun x=>x.length+4).sum<=32*(v.av.l.map af.sz).sum:=by
   rw [List.map_map,<- qz];exact iN _ _ _ fun x hx=>f x (by have:=af.gW hx; omega) (b.2.2.2.1.2.2 x hx)
  have i:((v.av.l.map wr).map fun x=>x.length+2).sum<=((v.av.l.map wr).map fun x=>x.length+4).sum:=iN _ _ _ fun _ _=>by omega
  have j:(Lib.itoa v.bl).length<=22:=yj b.2.1.1 b.2.1.2;have k:=oS (v.av.l.map wr);have m:=oS (List.zipWith eS v.aF.l (v.av.l.map wr));have o:=yq v.aF.l (v.av.l.map wr);have hq:=KM v.aV;rw [uS]
  repeat' split
  all_goals (try simp only [List.length_cons,List.length_append,List.length_nil])<;>omega
theorem join_eq (nl:Bool) (l:List Bs) (h:l.length<=1099511627776/\(Lib.join l cZ).length<=1099511627776):ql ⟨nl,l⟩ ([44,32]:Bs)=some (Lib.join l cZ):=by
 unfold ql tK;have h1:l.length<=cF:=by unfold cF; omega
 have b:(Lib.join l [44,32]).length<=cF:=by have:=h.2; unfold cZ at this; unfold cF; omega
 rw [if_pos ⟨h1,b⟩]; rfl
theorem tail_cons (a:Bs) (r:List Bs):Lib.joinTail cZ (a::r)=cZ++(a++Lib.joinTail cZ r):=by simp [Lib.joinTail]
theorem U6 (rec:af->Option Bs):∀(l:List af) (i:Nat) (o:Bs),(∀x∈l,rec x=some (wr x))->o.length+((l.map wr).map fun x=>x.length+2).sum<=1099511627776 ->
  lZ rec l i o=some (o++if i=0 then Lib.join (l.map wr) cZ else Lib.joinTail cZ (l.map wr)):=by
 intro l;induction l with
 | nil=>intro i o _ _; rw [lZ]; split<;>simp [Lib.join_nil,Lib.joinTail]
 | cons a r b =>
  intro i o hx h;simp only [List.map_cons,List.sum_cons] at h;rw [lZ];simp only [Ab.on];have f:=hx a (by simp);have hr:=fun x g=>hx x (List.mem_cons_of_mem _ g);by_cases hi:i=0
  ·rw [show decide ((0:Int)<((i:Nat):Int))=false from dF (by omega),cond_false,oB,f,oB,cM (by omega),oB,b (i+1) _ hr (by simp only [List.length_append,List.length_cons,List.length_nil]; omega),if_neg (by omega),if_pos hi,List.map_cons,Lib.join_cons];simp
  ·rw [show decide ((0:Int)<((i:Nat):Int))=true from dT (by omega),cond_true,cM (by simp only [List.length_append,List.length_cons,List.length_nil]; omega),oB,oB,f,oB,cM (by simp only [List.length_append,List.length_cons,List.length_nil]; omega),oB,b (i+1) _ hr (by simp only [List.length_append,List.length_cons,List.length_nil]; omega),if_neg (by omega),if_neg hi,List.map_cons,tail_cons]
   simp [cZ]
theorem U7 (a0:af) (rec:af->Option Bs):∀(l:List af) (i:Nat) (o:Bs),(∀x∈l,rec x=some (wr x))->o.length+((List.zipWith eS (a0.aF.l.drop i) (l.map wr)).map fun x=>x.length+2).sum<=1099511627776 ->
  lg a0 rec l i o=some (o++if i=0 then Lib.join (List.zipWith eS (a0.aF.l.drop i) (l.map wr)) cZ else Lib.joinTail cZ (List.zipWith eS (a0.aF.l.drop i) (l.map wr))):=by
 intro l;induction l with
 | nil=>intro i o _ _; rw [lg]; split<;>simp [Lib.join_nil,Lib.joinTail]
 | cons a r b =>
  intro i o hx h;rw [lg];simp only [Ab.on];by_cases hk:i<a0.aF.l.length
  ·rw [List.drop_eq_getElem_cons hk] at h ⊢;have g:(eS a0.aF.l[i] (wr a)).length=a0.aF.l[i].length+2+(wr a).length:=by simp [eS]; omega
   simp only [List.map_cons,List.zipWith_cons_cons,List.sum_cons,g] at h ⊢;have f:=hx a (by simp);have hr:=fun x j=>hx x (List.mem_cons_of_mem _ j);rw [show decide (((i:Nat):Int)<((a0.aF.l.length:Nat):Int))=true from dT (by omega),cond_true];by_cases hi:i=0
   ·rw [show decide ((0:Int)<((i:Nat):Int))=false from dF (by omega),cond_false,oB,List.getElem?_eq_getElem hk,oB,cM (by omega),oB,cM (by simp only [List.length_append,List.length_cons,List.length_nil]; omega),oB,f,oB,cM (by simp only [List.length_append,List.length_cons,List.length_nil]; omega),oB,b (i+1) _ hr (by simp only [List.length_append,List.length_cons,List.length_nil]; omega),if_neg (by omega),if_pos hi,Lib.join_cons]
    simp [eS]
   ·rw [show decide ((0:Int)<((i:Nat):Int))=true from dT (by omega),cond_true,cM (by simp only [List.length_append,List.length_cons,List.length_nil]; omega),oB,oB,List.getElem?_eq_getElem hk,oB,cM (by simp only [List.length_append,List.length_cons,List.length_nil]; omega),oB,cM (by simp only [List.length_append,List.length_cons,List.length_nil]; omega),oB,f,oB,cM (by simp only [List.length_append,List.length_cons,List.length_nil]; omega),oB,b (i+1) _ hr (by simp only [List.length_append,List.length_cons,List.length_nil]; omega),if_neg (by omega),if_neg hi,tail_cons]
    simp [eS,cZ]
  ·rw [show decide (((i:Nat):Int)<((a0.aF.l.length:Nat):Int))=false from dF (by omega),cond_false,List.drop_of_length_le (by omega)];simp [Lib.join_nil,Lib.joinTail]
theorem U8 (n:Nat):∀v:af,v.sz<n->v.sz<=1048576->v.wf->ir n v=some (wr v):=by
 induction n with
 | zero=>intro v h; omega
 | succ n m =>
  intro v hn o hw;have p:=v.bI;have ht:Bs.sz v.aV=v.aV.length+1:=rfl;have hk:Sl.sz Bs.sz v.aF=1+(v.aF.l.map Bs.sz).sum:=rfl;have hi:Sl.sz af.sz v.av=1+(v.av.l.map af.sz).sum:=rfl;have b:=(af.jK v).1 hw;have k:∀x∈v.av.l,ir n x=some (wr x):=fun x hx=>m x (by have:=af.gW hx; omega) (by have:=af.gW hx; omega) (b.2.2.2.1.2.2 x hx);have hit:((v.av.l.map wr).map fun x=>x.length+4).sum<=32*(v.av.l.map af.sz).sum:=by
   rw [List.map_map,<- qz];exact iN _ _ _ fun x hx=>yt (x.sz+1) x (by omega) (b.2.2.2.1.2.2 x hx)
  have q:((v.av.l.map wr).map fun x=>x.length+2).sum<=((v.av.l.map wr).map fun x=>x.length+4).sum:=iN _ _ _ fun _ _=>by omega
  have r:=yq v.aF.l (v.av.l.map wr);have s:=oS (v.av.l.map wr);have t:=oS (List.zipWith eS v.aF.l (v.av.l.map wr));rw [ir,uS];by_cases f:v.ak=0
  ·rw [if_pos f,dT f,cond_true]
  rw [if_neg f,dF f,cond_false];by_cases c1:v.ak=1
  ·rw [if_pos c1,dT c1,cond_true];by_cases c:v.bl=0
   ·rw [if_pos c,dT c,cond_true]
   ·rw [if_neg c,dF c,cond_false]
  rw [if_neg c1,dF c1,cond_false];by_cases c2:v.ak=2
  ·rw [if_pos c2,dT c2,cond_true,yl b.2.1.1 b.2.1.2,oB]
  rw [if_neg c2,dF c2,cond_false];by_cases c3:v.ak=3
  ·rw [if_pos c3,dT c3,cond_true,KN _ (by omega),oB]
  rw [if_neg c3,dF c3,cond_false];by_cases g:v.ak=4
  ·rw [if_pos g,dT g,cond_true]
  rw [if_neg g,dF g,cond_false];by_cases i:v.ak=7
  ·rw [if_pos i,dT i,cond_true,cM (by simp; omega),oB]; rfl
  rw [if_neg i,dF i,cond_false];by_cases c5:v.ak=5
  ·rw [if_pos c5,dT c5,cond_true,U6 _ _ _ _ k (by simp only [List.length_cons,List.length_nil]; omega),oB,if_pos rfl];simp only [Ab.on];rw [cM (by simp only [List.length_append,List.length_cons,List.length_nil]; omega),oB]; rfl
  rw [if_neg c5,dF c5,cond_false];by_cases j:v.ak=6
  ·rw [if_pos j,dT j,cond_true,U7 _ _ _ _ _ k (by simp only [List.length_cons,List.length_nil,List.drop_zero]; omega),oB,if_pos rfl];simp only [Ab.on,List.drop_zero];rw [cM (by simp only [List.length_append,List.length_cons,List.length_nil]; omega),oB]; rfl
  rw [if_neg j,dF j,cond_false]
theorem U9 (s:Sl Bs) (h:s.l.length<=1099511627776/\(Lib.join s.l cZ).length<=1099511627000):sw s=some (91::(Lib.join s.l cZ++[93])):=by
 unfold sw;obtain⟨nl,l⟩:=s;have h:l.length<=1099511627776/\(Lib.join l cZ).length<=1099511627000:=h;rw [join_eq nl l ⟨h.1,by omega⟩,oB,cM (by simp only [List.length_cons,List.length_nil]; omega),oB,cM (by simp only [List.length_append,List.length_cons,List.length_nil]; omega),oB]; rfl
theorem U_ (s:Sl Bs) (h:s.l.length<=1099511627776/\(Lib.join s.l cZ).length<=1099511627000):sy s=some (123::(Lib.join s.l cZ++[125])):=by
 unfold sy;obtain⟨nl,l⟩:=s;have h:l.length<=1099511627776/\(Lib.join l cZ).length<=1099511627000:=h;rw [join_eq nl l ⟨h.1,by omega⟩,oB,cM (by simp only [List.length_cons,List.length_nil]; omega),oB,cM (by simp only [List.length_append,List.length_cons,List.length_nil]; omega),oB]; rfl
theorem U' (a0:af) (rec:af->Option Bs) (hx:∀x∈a0.av.l,rec x=some (wr x)) (hl:a0.av.l.length<=1048576):∀(n i:Nat) (s:Sl Bs),a0.av.l.length<n+i->i<=a0.av.l.length->s.l=(a0.av.l.take i).map wr ->
  ∃t:Sl Bs,t.l=a0.av.l.map wr/\sx a0 rec n s i=sw t:=by
 intro n;induction n with
 | zero=>intro i s h1 f; omega
 | succ n g =>
  intro i s h1 f b;rw [sx];by_cases hi:i<a0.av.l.length
  ·have j:s.l.length=i:=by rw [b,List.length_map,List.length_take]; omega
   rw [show decide (((i:Nat):Int)<((a0.av.l.length:Nat):Int))=true from dT (by omega),cond_true,List.getElem?_eq_getElem hi,oB,hx _ (List.getElem_mem hi),oB,gG (by decide) (by show s.l.length+1<=_; omega),oB];refine g (i+1) _ (by omega) (by omega) ?_;show s.l++[wr a0.av.l[i]]=_;rw [b,List.take_succ_eq_append_getElem hi,List.map_append]; rfl
  ·rw [show decide (((i:Nat):Int)<((a0.av.l.length:Nat):Int))=false from dF (by omega),cond_false];exact⟨s,by rw [b,List.take_of_length_le (by omega)],rfl⟩
theorem tobj_loop (a0:af) (rec:af->Option Bs) (hx:∀x∈a0.av.l,rec x=some (wr x)) (hl:a0.av.l.length<=1048576) (g:∀x∈a0.av.l,(wr x).length<=1099511627) (j:∀k∈a0.aF.l,k.length<=1048576):∀(n i:Nat) (s:Sl Bs),a0.av.l.length<n+i->i<=a0.av.l.length->i<=a0.aF.l.length->s.l=(List.zipWith eS a0.aF.l (a0.av.l.map wr)).take i ->
  ∃t:Sl Bs,t.l=List.zipWith eS a0.aF.l (a0.av.l.map wr)/\sA a0 rec n s (i:Int)=sy t:=by
 intro n;induction n with
 | zero=>intro i s h1 m; omega
 | succ n o =>
  intro i s h1 m v b;have p:(List.zipWith eS a0.aF.l (a0.av.l.map wr)).length=min a0.aF.l.length a0.av.l.length:=by rw [List.length_zipWith,List.length_map]
  have q:(if ((a0.av.l.length:Nat):Int)<((a0.aF.l.length:Nat):Int) then((a0.av.l.length:Nat):Int) else((a0.aF.l.length:Nat):Int))=((min a0.aF.l.length a0.av.l.length:Nat):Int):=by split<;>omega
  rw [sA,q];by_cases hi:i<min a0.aF.l.length a0.av.l.length
  ·have hk:i<a0.aF.l.length:=by omega
   have f:i<a0.av.l.length:=by omega
   have w:s.l.length=i:=by rw [b,List.length_take,p]; omega
   have r:cq a0.aF.l (i:Int)=some a0.aF.l[i]:=by unfold cq; rw [if_pos (by omega),Int.toNat_natCast,List.getElem?_eq_getElem hk]
   have u:cq a0.av.l (i:Int)=some a0.av.l[i]:=by unfold cq; rw [if_pos (by omega),Int.toNat_natCast,List.getElem?_eq_getElem f]
   have y:=j _ (List.getElem_mem hk);have z:=g _ (List.getElem_mem f);rw [show decide (((i:Nat):Int)<((min a0.aF.l.length a0.av.l.length:Nat):Int))=true from dT (by omega),cond_true,r,oB,cM (by simp only [List.length_cons,List.length_nil]; omega),oB,u,oB,hx _ (List.getElem_mem f),oB,cM (by simp only [List.length_append,List.length_cons,List.length_nil]; omega),oB,gG (by decide) (by show s.l.length+1<=_; omega),oB,fU (by omega),oB]
   refine o (i+1) _ (by omega) (by omega) (by omega) ?_;show s.l++[a0.aF.l[i]++[58,32]++wr a0.av.l[i]]=_;rw [b,List.take_succ_eq_append_getElem (by omega)];simp [eS]
  ·rw [show decide (((i:Nat):Int)<((min a0.aF.l.length a0.av.l.length:Nat):Int))=false from dF (by omega),cond_false];exact⟨s,by rw [b,List.take_of_length_le (by omega)],rfl⟩
theorem Va (n:Nat):∀v:af,v.sz<n->v.sz<=1048576->v.wf->k9 n v=some (wr v):=by
 induction n with
 | zero=>intro v h; omega
 | succ n s =>
  intro v hn z hw;have B:=v.bI;have ht:Bs.sz v.aV=v.aV.length+1:=rfl;have hk:Sl.sz Bs.sz v.aF=1+(v.aF.l.map Bs.sz).sum:=rfl;have hi:Sl.sz af.sz v.av=1+(v.av.l.map af.sz).sum:=rfl;have b:=(af.jK v).1 hw;have q:∀x∈v.av.l,k9 n x=some (wr x):=fun x hx=>s x (by have:=af.gW hx; omega) (by have:=af.gW hx; omega) (b.2.2.2.1.2.2 x hx);have hit:((v.av.l.map wr).map fun x=>x.length+4).sum<=32*(v.av.l.map af.sz).sum:=by
   rw [List.map_map,<- qz];exact iN _ _ _ fun x hx=>yt (x.sz+1) x (by omega) (b.2.2.2.1.2.2 x hx)
  have C:((v.av.l.map wr).map fun x=>x.length+2).sum<=((v.av.l.map wr).map fun x=>x.length+4).sum:=iN _ _ _ fun _ _=>by omega
  have E:=yq v.aF.l (v.av.l.map wr);have F:=oS (v.av.l.map wr);have G:=oS (List.zipWith eS v.aF.l (v.av.l.map wr));have r:v.av.l.length<=1048576:=by
   have:=count_le v.av.l; omega
  rw [k9,uS];by_cases i:v.ak=0
  ·rw [if_pos i,dT i,cond_true]
  rw [if_neg i,dF i,cond_false];by_cases c1:v.ak=1
  ·rw [if_pos c1,dT c1,cond_true];by_cases c:v.bl=0
   ·rw [if_pos c,dT c,cond_true]
   ·rw [if_neg c,dF c,cond_false]
  rw [if_neg c1,dF c1,cond_false];by_cases c2:v.ak=2
  ·rw [if_pos c2,dT c2,cond_true,B6,DN b.2.1.1 b.2.1.2,oB]
  rw [if_neg c2,dF c2,cond_false];by_cases c3:v.ak=3
  ·rw [if_pos c3,dT c3,cond_true,Iu,KP _ (by omega),oB]
  rw [if_neg c3,dF c3,cond_false];by_cases j:v.ak=4
  ·rw [if_pos j,dT j,cond_true]
  rw [if_neg j,dF j,cond_false];by_cases m:v.ak=7
  ·rw [if_pos m,dT m,cond_true,cM (by simp; omega),oB]; rfl
  rw [if_neg m,dF m,cond_false];by_cases c5:v.ak=5
  ·obtain⟨t,g,p⟩:=U' v _ q r (v.av.l.length+1) 0 (Sl.nil:Sl Bs) (by omega) (by omega) (by simp [Sl.nil]);rw [if_pos c5,dT c5,cond_true,p,U9 t (by rw [g,List.length_map]; omega),g]
  rw [if_neg c5,dF c5,cond_false];by_cases o:v.ak=6
  ·have u:∀x∈v.av.l,(wr x).length<=1099511627:=fun x hx=>by have:=yt (x.sz+1) x (by omega) (b.2.2.2.1.2.2 x hx); have:=af.gW hx; omega
   have w:∀k∈v.aF.l,k.length<=1048576:=fun k y=>by have:=Sl.dy (f:=Bs.sz) y; have:Bs.sz k=k.length+1:=rfl; omega
   obtain⟨t,g,p⟩:=tobj_loop v _ q r u w F0 0 (Sl.nil:Sl Bs) (by rw [eD]; omega) (by omega) (by omega) (by simp [Sl.nil]);rw [if_pos o,dT o,cond_true];refine Eq.trans p ?_;rw [U_ t (by rw [g,List.length_zipWith,List.length_map]; omega),g]
  rw [if_neg o,dF o,cond_false]
theorem Vb {v:af}(h:v.sz<=1048576) (hw:v.wf):Du v=some (wr v):=U8 F0 v (by rw [eD]; omega) h hw
theorem Vc {v:af}(h:v.sz<=1048576) (hw:v.wf):Cc v=some (wr v):=Va F0 v (by rw [eD]; omega) h hw
def lq (c:UInt8):Bool:=pW ((c.toNat:Nat):Int)
def oU (c:UInt8):Bool:=rq ((c.toNat:Nat):Int)
def gy (c:UInt8):Bool:=lq c||oU c
def qA (c:UInt8):Bool:=oU c||c==45
def fc (c:UInt8):Nat:=if c=34 then 2 else if c=91 then 3 else if c=123 then 4 else if oU c||c==45 then 1 else if c=44\/c=93\/c=125\/c=58\/c=41 then 5 else 0
theorem Vd (c:UInt8):lq c=true->fc c=0:=by
 revert c; apply kg; decide +kernel
theorem KQ (c:UInt8):gy c=true->c≠125/\c≠41:=by
 revert c; apply kg; decide +kernel
def St (x:Bs):Prop:=x=[]\/∃c r,x=c::r/\fc c=5
theorem St.name {x:Bs}(h:St x):∀c r,x=c::r->gy c=false:=by
 rintro c r rfl;rcases h with h|⟨c',f,h,b⟩
 ·cases h
 ·simp only [List.cons.injEq] at h;obtain⟨rfl,rfl⟩:=h
  revert b; revert c; apply kg; decide +kernel
theorem St.num {x:Bs}(h:St x):∀c r,x=c::r->qA c=false:=by
 rintro c r rfl;rcases h with h|⟨c',f,h,b⟩
 ·cases h
 ·simp only [List.cons.injEq] at h;obtain⟨rfl,rfl⟩:=h
  revert b; revert c; apply kg; decide +kernel
theorem run_eq (p:UInt8->Bool):∀(a b x y:Bs),(∀c∈a,p c=true)->(∀c∈b,p c=true)->(∀c r,x=c::r->p c=false)->(∀c r,y=c::r->p c=false)->a++x=b++y->a=b/\x=y
 | [],[],x,y,_,_,_,_,h=>⟨rfl,h⟩
 | [],b::r,x,y,_,f,hx,_,h=>by
  have:=hx b (r++y) h;rw [f b (by simp)] at this; cases this
 | a::r,[],x,y,g,_,_,i,h=>by
  have:=i a (r++x) h.symm;rw [g a (by simp)] at this; cases this
 | a::r,b::t,x,y,g,f,hx,i,h=>by
  simp only [List.cons_append,List.cons.injEq] at h;obtain⟨j,k⟩:=run_eq p r t x y (fun c hc=>g c (by simp [hc])) (fun c hc=>f c (by simp [hc])) hx i h.2;exact⟨by rw [h.1,j],k⟩
theorem KR (k:Nat) (h:k<10):oU (UInt8.ofNat (48+k))=true/\(UInt8.ofNat (48+k)).toNat=48+k:=by
 have:∀i:Fin 10,oU (UInt8.ofNat (48+i.val))=true/\(UInt8.ofNat (48+i.val)).toNat=48+i.val:=by decide +kernel
 exact this ⟨k,h⟩
def D4 (l:Bs):Nat:=l.foldl (fun a c=>10*a+(c.toNat-48)) 0
theorem uT (n:Nat):∀u,u<n->(∀c∈Lib.decDigits u,oU c=true)/\D4 (Lib.decDigits u)=u/\Lib.decDigits u≠[]:=by
 induction n with
 | zero=>intro u h; omega
 | succ n g =>
  intro u hu;rw [Lib.decDigits];by_cases h:u<10
  ·rw [dif_pos h];obtain⟨h1,b⟩:=KR u h;refine⟨fun c hc=>by rw [List.mem_singleton.1 hc]; exact h1, ?_,by simp⟩;unfold D4;simp only [List.foldl_cons,List.foldl_nil,b]; omega
  ·rw [dif_neg h];obtain⟨h1,b⟩:=KR (u % 10) (by omega);obtain⟨i,f,j⟩:=g (u / 10) (by omega);refine⟨fun c hc=>?_, ?_,by simp⟩
   ·rcases List.mem_append.1 hc with hc|hc
    ·exact i c hc
    ·rw [List.mem_singleton.1 hc]; exact h1
   ·unfold D4 at f ⊢;rw [List.foldl_append,f];simp only [List.foldl_cons,List.foldl_nil,b]; omega
theorem KS {u v:Nat}(h:Lib.decDigits u=Lib.decDigits v):u=v:=by
 have h1:=(uT (u+1) u (by omega)).2.1; have b:=(uT (v+1) v (by omega)).2.1;rw [h] at h1; omega
theorem KT {u:Nat}{r:Bs}(h:Lib.decDigits u=45::r):False:=by
 have:=(uT (u+1) u (by omega)).1 45 (by rw [h]; simp)
 revert this; decide +kernel
theorem KU {n m:Int}(h:Lib.itoa n=Lib.itoa m):n=m:=by
 unfold Lib.itoa at h
 split at h<;>split at h
 ·simp only [List.cons.injEq,true_and] at h;have:=KS h; omega
 ·exact(KT h.symm).elim
 ·exact(KT h).elim
 ·have:=KS h; omega
theorem uU (n:Int):(∀c∈Lib.itoa n,qA c=true)/\∃c r,Lib.itoa n=c::r/\fc c=1:=by
 have f:∀c:UInt8,oU c=true->fc c=1:=by apply kg; decide +kernel
 unfold Lib.itoa
 split
 ·obtain⟨h1,_,b⟩:=uT (n.natAbs+1) n.natAbs (by omega);refine⟨fun c hc=>?_,_,_,rfl,by decide +kernel⟩;rcases List.mem_cons.1 hc with rfl|hc
  ·decide +kernel
  ·simp [qA,h1 c hc]
 ·obtain⟨h1,_,b⟩:=uT (n.toNat+1) n.toNat (by omega);refine⟨fun c hc=>by simp [qA,h1 c hc], ?_⟩;cases e:Lib.decDigits n.toNat with
  | nil=>exact absurd e b
  | cons c r=>exact⟨c,r,rfl,f c (h1 c (by rw [e]; simp))⟩
def yu (c:UInt8):Nat:=if c.toNat<58 then c.toNat-48 else c.toNat-87
def dec:Bs->UInt8
 | []=>0
 | a::r=>if a=92 then(match r with
  | []=>0
  | b::t=>if b=34 then 34 else if b=92 then 92 else if b=110 then 10 else if b=114 then 13 else if b=116 then 9 else(match t with
   | _::_::h::l::_=>UInt8.ofNat (16*yu h+yu l)
   | _=>0)) else a
theorem Ve (c:UInt8):UInt8.ofNat (16*yu (hx (c.toNat / 16))+yu (hx (c.toNat % 16)))=c:=by
 revert c; apply kg; decide +kernel
theorem KV (c:UInt8) (x:Bs):dec (gh c++x)=c:=by
 unfold gh;by_cases c1:c=34
 ·rw [if_pos c1,c1]; rfl
 rw [if_neg c1];by_cases c2:c=92
 ·rw [if_pos c2,c2]; rfl
 rw [if_neg c2];by_cases c3:c=10
 ·rw [if_pos c3,c3]; rfl
 rw [if_neg c3];by_cases b:c=13
 ·rw [if_pos b,b]; rfl
 rw [if_neg b];by_cases c5:c=9
 ·rw [if_pos c5,c5]; rfl
 rw [if_neg c5]
 split
 ·show (if c=92 then _ else c)=c;rw [if_neg c2]
 ·exact Ve c
theorem Vf {a c:UInt8}{x y:Bs}(h:gh a++x=gh c++y):a=c/\x=y:=by
 have:a=c:=by
  have h1:=KV a x;rw [h,KV] at h1; exact h1.symm
 subst this;exact⟨rfl,List.append_cancel_left h⟩
theorem KW (c:UInt8):∃d r,gh c=d::r/\d≠34:=by
 have:∀c:UInt8,(gh c).head?≠some 34/\gh c≠[]:=by apply kg; decide +kernel
 cases e:gh c with
 | nil=>exact absurd e (this c).2
 | cons d r=>exact⟨d,r,rfl,fun b=>(this c).1 (by rw [e,b]; rfl)⟩
theorem KX:∀(s t x y:Bs),s.flatMap gh++34::x=t.flatMap gh++34::y->s=t/\x=y
 | [],[],x,y,h=>by simp at h; exact⟨rfl,h⟩
 | [],c::r,x,y,h=>by
  obtain⟨d,q,e,b⟩:=KW c;simp [e] at h; exact absurd h.1.symm b
 | c::r,[],x,y,h=>by
  obtain⟨d,q,e,b⟩:=KW c;simp [e] at h; exact absurd h.1 b
 | a::r,c::t,x,y,h=>by
  simp only [List.flatMap_cons,List.append_assoc] at h;obtain⟨f,g⟩:=Vf h;obtain⟨i,j⟩:=KX r t x y g;exact⟨by rw [f,i],j⟩
theorem KY {s t x y:Bs}(h:qt s++x=qt t++y):s=t/\x=y:=by
 unfold qt at h;simp only [List.cons_append,List.append_assoc,List.cons.injEq,true_and,List.nil_append] at h;exact KX s t x y h
theorem D5:∀(l:Bs) (i:Nat) (z:Unit ⊕ Bool),nP l i=z->z=Sum.inr false\/(∀c∈l,gy c=true)/\(i=0->∀c r,l=c::r->lq c=true)
 | [],_,_,_=>.inr ⟨by simp,fun _ c r h=>by cases h⟩
 | a::r,i,z,h=>by
  rw [nP] at h;simp only [Ab.on] at h;by_cases hl:pW ((a.toNat:Nat):Int)=true
  ·rw [hl] at h;simp only [Bool.not_true,Bool.false_and,cond_false] at h;rcases D5 r (i+1) z h with h|⟨h1,_⟩
   ·exact .inl h
   ·refine .inr ⟨fun c hc=>?_,fun _ c q e=>?_⟩
    ·rcases List.mem_cons.1 hc with rfl|hc
     ·simp [gy,lq,hl]
     ·exact h1 c hc
    ·simp only [List.cons.injEq] at e; rw [<- e.1]; exact hl
  ·have f:pW ((a.toNat:Nat):Int)=false:=by simpa using hl
   rw [f] at h;by_cases hi:i=0
   ·subst hi; simp at h; exact .inl h.symm
   ·have g:decide (((i:Nat):Int)=0)=false:=dF (by omega);rw [g] at h;simp only [Bool.not_false,Bool.true_and,cond_true,Bool.false_or] at h;cases b:rq ((a.toNat:Nat):Int) with
    | false=>rw [b] at h; simp at h; exact .inl h.symm
    | true =>
     rw [b] at h;simp only [Bool.not_true,cond_false] at h;rcases D5 r (i+1) z h with h|⟨h1,_⟩
     ·exact .inl h
     ·refine .inr ⟨fun c hc=>?_,fun e=>absurd e hi⟩;rcases List.mem_cons.1 hc with rfl|hc
      ·simp [gy,oU,b]
      ·exact h1 c hc
theorem jx {k:Bs}(h:bQ k=true):(∀c∈k,gy c=true)/\∃c r,k=c::r/\lq c=true:=by
 unfold bQ at h;cases k with
 | nil=>simp at h
 | cons a r =>
  cases b:((decide ((((a::r:Bs).length:Nat):Int)<(1:Int)))||(decide ((64:Int)<(((a::r:Bs).length:Nat):Int)))) with
  | true=>rw [b] at h; simp at h
  | false =>
   rw [b,cond_false] at h;simp only [Ab.on] at h;rcases D5 (a::r) 0 _ rfl with h1|⟨h1,f⟩
   ·rw [h1] at h; simp at h
   ·exact⟨h1,a,r,rfl,f rfl a r rfl⟩
def yw:Bs:=[116,114,117,101]
def yx:Bs:=[102,97,108,115,101]
def yy:Bs:=[110,117,108,108]
def Nd (v:af):Prop :=
 (v.ak=0/\v.bl=0/\v.aV=[]/\v.av.l=[]/\v.aF.l=[])\/(v.ak=1/\(v.bl=0\/v.bl=1)/\v.aV=[]/\v.av.l=[]/\v.aF.l=[]) \/
 (v.ak=2/\v.aV=[]/\v.av.l=[]/\v.aF.l=[])\/(v.ak=3/\v.bl=0/\v.av.l=[]/\v.aF.l=[]) \/
 (v.ak=4/\v.bl=0/\v.av.l=[]/\v.aF.l=[]/\bQ v.aV=true/\v.aV≠yw/\v.aV≠yx/\v.aV≠yy) \/
 (v.ak=5/\v.bl=0/\v.aV=[]/\v.aF.l=[])\/(v.ak=6/\v.bl=0/\v.aV=[]/\v.aF.l.length=v.av.l.length)
theorem Vg {v:af}(h:kK v false=some true):Nd v:=by
 unfold kK at h;unfold Nd;by_cases b:v.ak=0
 ·rw [dT b,cond_true] at h;simp at h;exact .inl ⟨b,h.1.1.1,h.1.1.2,h.1.2,h.2⟩
 rw [dF b,cond_false] at h;by_cases c1:v.ak=1
 ·rw [dT c1,cond_true] at h;simp at h;exact .inr (.inl ⟨c1,h.1.1.1,h.1.1.2,h.1.2,h.2⟩)
 rw [dF c1,cond_false] at h;by_cases c2:v.ak=2
 ·rw [dT c2,cond_true] at h;simp at h;exact .inr (.inr (.inl ⟨c2,h.1.1,h.1.2,h.2⟩))
 rw [dF c2,cond_false] at h;by_cases c3:v.ak=3
 ·rw [dT c3,cond_true] at h;simp at h;exact .inr (.inr (.inr (.inl ⟨c3,h.1.1,h.1.2,h.2⟩)))
 rw [dF c3,cond_false] at h;by_cases f:v.ak=4
 ·rw [dT f,cond_true] at h;simp only [Ab.on] at h;cases c:(((decide (v.bl=(0:Int)))&&(decide (((v.av.l.length:Nat):Int)=(0:Int))))&&(decide (((v.aF.l.length:Nat):Int)=(0:Int)))) with
  | false=>rw [c] at h; simp at h
  | true =>
   rw [c] at h;simp at c h;exact .inr (.inr (.inr (.inr (.inl ⟨f,c.1.1,c.1.2,c.2,h.1.1.1,h.1.1.2,h.1.2,h.2⟩))))
 rw [dF f,cond_false] at h;by_cases c5:v.ak=5
 ·rw [dT c5,cond_true] at h;simp at h;exact .inr (.inr (.inr (.inr (.inr (.inl ⟨c5,h.1.1,h.1.2,h.2⟩)))))
 rw [dF c5,cond_false] at h;by_cases g:v.ak=6
 ·rw [dT g,cond_true] at h;rcases dS h with ⟨c,_⟩|⟨c,h⟩
  ·simp at c;exact .inr (.inr (.inr (.inr (.inr (.inr ⟨g,c.1.1,c.1.2,by have:=c.2; omega⟩)))))
  ·rw [c] at h; simp at h
 rw [dF g,cond_false] at h;cases c:decide (v.ak=(7:Int)) with
 | true=>rw [c,cond_true] at h; simp [Ab.on] at h
 | false=>rw [c,cond_false] at h; simp at h
def Pl:Nat->af->Prop
 | 0,_=>False
 | n+1,v=>Nd v/\(∀k∈v.aF.l,bQ k=true)/\∀x∈v.av.l,Pl n x
theorem KZ:∀(l:List Bs) (z:Unit ⊕ Bool),kL true l=z->(z=Sum.inr false)\/(z=Sum.inl ()/\∀k∈l,bQ k=true)
 | [],_,h=>.inr ⟨h.symm,by simp⟩
 | a::r,z,h=>by
  rw [kL] at h;simp only [Ab.on,cond_true,Bool.true_and] at h;cases e:bQ a with
  | false=>rw [e] at h; simp at h; exact .inl h.symm
  | true =>
   rw [e] at h;simp only [Bool.not_true,cond_false] at h;rcases KZ r z h with h|⟨h,b⟩
   ·exact .inl h
   ·exact .inr ⟨h,fun k hk=>by rcases List.mem_cons.1 hk with rfl|hk; exact e; exact b k hk⟩
theorem K0:∀(l:List Bs),kL false l=Sum.inl ()
 | []=>rfl
 | a::r=>by rw [kL]; simp only [Ab.on,Bool.false_and,cond_false]; exact K0 r
theorem K_ (b:Bool) (k:af->Bool->Option Bool):∀(l:List af) (z:Unit ⊕ Bool),jM b k l=some z->z=Sum.inr false\/(z=Sum.inl ()/\∀x∈l,k x b=some true)
 | [],z,h=>by rw [jM] at h; simp at h; exact .inr ⟨h.symm,by simp⟩
 | a::r,z,h=>by
  rw [jM] at h;simp only [Ab.on] at h;obtain⟨y,e,h⟩:=cS h;cases y with
  | false=>simp at h; exact .inl h.symm
  | true =>
   simp only [Bool.not_true,cond_false] at h;rcases K_ b k r z h with h|⟨h,f⟩
   ·exact .inl h
   ·exact .inr ⟨h,fun x hx=>by rcases List.mem_cons.1 hx with rfl|hx; exact e; exact f x hx⟩
theorem La {n:Nat}{v:af}{b:Bool}(h:gJ (n+1) v b=some true):kK v b=some true/\(b=true->∀k∈v.aF.l,bQ k=true)/\∀x∈v.av.l,gJ n x b=some true:=by
 rw [gJ] at h;obtain⟨y,e,h⟩:=cS h;cases y with
 | false=>simp at h
 | true =>
  simp only [Bool.not_true,cond_false,Ab.on] at h;have hk:kL b v.aF.l=Sum.inl ()/\(b=true->∀k∈v.aF.l,bQ k=true):=by
   cases b with
   | false=>exact⟨K0 _,fun h=>by cases h⟩
   | true =>
    rcases KZ v.aF.l _ rfl with h1|⟨h1,f⟩
    ·rw [h1] at h; simp at h
    ·exact⟨h1,fun _=>f⟩
  rw [hk.1] at h;simp only at h;obtain⟨z,g,h⟩:=cS h;rcases K_ _ _ _ _ g with h1|⟨h1,f⟩
  ·rw [h1] at h; simp at h
  ·exact⟨e,hk.2,f⟩
def nw:Nat->af->af->Prop
 | 0,_,_=>False
 | n+1,v,w=>v.ak=w.ak/\v.bl=w.bl/\v.aV=w.aV/\v.aF.l=w.aF.l/\aR (nw n) v.av.l w.av.l
def cl (v:af):Nat:=if v.ak=2 then 1 else if v.ak=3 then 2 else if v.ak=5 then 3 else if v.ak=6 then 4 else 0
theorem D6 {v:af}(h:Nd v) (hk:cl v=0):(v.ak=0/\wr v=yy)\/(v.ak=1/\v.bl=0/\wr v=yx)\/(v.ak=1/\v.bl=1/\wr v=yw)\/(v.ak=4/\wr v=v.aV/\bQ v.aV=true/\v.aV≠yw/\v.aV≠yx/\v.aV≠yy):=by
 rw [uS];rcases h with ⟨k,h⟩|⟨k,h,_⟩|⟨k,h⟩|⟨k,h⟩|⟨k,h⟩|⟨k,h⟩|⟨k,h⟩
 ·exact .inl ⟨k,by simp [k,yy]⟩
 ·rcases h with h|h
  ·exact .inr (.inl ⟨k,h,by simp [k,h,yx]⟩)
  ·exact .inr (.inr (.inl ⟨k,h,by simp [k,h,yw]⟩))
 ·simp [cl,k] at hk
 ·simp [cl,k] at hk
 ·exact .inr (.inr (.inr ⟨k,by simp [k],h.2.2.2⟩))
 ·simp [cl,k] at hk
 ·simp [cl,k] at hk
theorem D7 {v:af}(h:Nd v) (hk:cl v=0):(∀c∈wr v,gy c=true)/\∃c r,wr v=c::r/\fc c=0:=by
 rcases D6 h hk with ⟨_,e⟩|⟨_,_,e⟩|⟨_,_,e⟩|⟨_,e,hn,_⟩
 ·rw [e]; exact⟨by decide +kernel,_,_,rfl,by decide +kernel⟩
 ·rw [e]; exact⟨by decide +kernel,_,_,rfl,by decide +kernel⟩
 ·rw [e]; exact⟨by decide +kernel,_,_,rfl,by decide +kernel⟩
 ·rw [e];obtain⟨h1,c,r,b,f⟩:=jx hn;exact⟨h1,c,r,b,Vd c f⟩
theorem yz {v:af}(h:Nd v):(cl v=1->v.ak=2/\wr v=Lib.itoa v.bl/\v.aV=[]/\v.av.l=[]/\v.aF.l=[])/\(cl v=2->v.ak=3/\wr v=qt v.aV/\v.bl=0/\v.av.l=[]/\v.aF.l=[]) /\
  (cl v=3->v.ak=5/\wr v=91::(Lib.join (v.av.l.map wr) cZ++[93])/\v.bl=0/\v.aV=[]/\v.aF.l=[]) /\
  (cl v=4->v.ak=6/\wr v=123::(Lib.join (List.zipWith eS v.aF.l (v.av.l.map wr)) cZ++[125])/\v.bl=0/\v.aV=[]/\v.aF.l.length=v.av.l.length)/\cl v<=4:=by
 rw [uS];rcases h with ⟨k,h⟩|⟨k,h,_⟩|⟨k,h⟩|⟨k,h⟩|⟨k,h⟩|⟨k,h⟩|⟨k,h⟩<;>simp [cl,k]<;>exact h
theorem D8 {v:af}(h:Nd v):∃c r,wr v=c::r/\fc c=cl v:=by
 obtain⟨b,f,g,i,j⟩:=yz h;have hc:cl v=0\/cl v=1\/cl v=2\/cl v=3\/cl v=4:=by omega
 rcases hc with e|e|e|e|e
 ·rw [e]; exact(D7 h e).2
 ·rw [e,(b e).2.1]; exact(uU _).2
 ·rw [e,(f e).2.1]; exact⟨_,_,rfl,by decide +kernel⟩
 ·rw [e,(g e).2.1]; exact⟨_,_,rfl,by decide +kernel⟩
 ·rw [e,(i e).2.1]; exact⟨_,_,rfl,by decide +kernel⟩
theorem oV {l:List Bs}{x:Bs}(hx:St x):St (Lib.joinTail cZ l++x):=by
 cases l with
 | nil=>exact hx
 | cons a r=>rw [tail_cons]; exact .inr ⟨44,_,rfl,by decide +kernel⟩
def s6 (n:Nat):Prop:=∀v u x y,Pl n v->Pl n u->St x->St y->wr v++x=wr u++y->nw n v u/\x=y
theorem yA (x:Bs):St (93::x):=.inr ⟨93,x,rfl,by decide +kernel⟩
theorem Lb {n:Nat}(f:s6 n):∀(l m:List af) (x y:Bs),(∀a∈l,Pl n a)->(∀a∈m,Pl n a)->Lib.joinTail cZ (l.map wr)++93::x=Lib.joinTail cZ (m.map wr)++93::y->aR (nw n) l m/\x=y
 | [],[],x,y,_,_,h=>by simp [Lib.joinTail] at h; exact⟨.nil,h⟩
 | [],b::t,x,y,_,_,h=>by rw [List.map_cons,tail_cons] at h; simp [Lib.joinTail,cZ] at h
 | a::r,[],x,y,_,_,h=>by rw [List.map_cons,tail_cons] at h; simp [Lib.joinTail,cZ] at h
 | a::r,b::t,x,y,g,i,h=>by
  rw [List.map_cons,List.map_cons,tail_cons,tail_cons,List.append_assoc,List.append_assoc,List.append_assoc,List.append_assoc] at h;obtain⟨j,k⟩:=f a b _ _ (g a (by simp)) (i b (by simp)) (oV (yA _)) (oV (yA _)) (List.append_cancel_left h);obtain⟨o,p⟩:=Lb f r t x y (fun a h=>g a (by simp [h])) (fun a h=>i a (by simp [h])) k;exact⟨.cons j o,p⟩
theorem Vh {n:Nat}(f:s6 n) (g:∀v,Pl n v->Nd v) (l m:List af) (x y:Bs) (hl:∀a∈l,Pl n a) (hm:∀a∈m,Pl n a) (h:Lib.join (l.map wr) cZ++93::x=Lib.join (m.map wr) cZ++93::y):aR (nw n) l m/\x=y:=by
 have i:∀(a:af) (z:Bs) (w:Bs),Pl n a->wr a++z=93::w->False:=by
  intro a z w j h;obtain⟨c,r,e,k⟩:=D8 (g a j);have:=(yz (g a j)).2.2.2.2;rw [e] at h;simp only [List.cons_append,List.cons.injEq] at h;rw [h.1,show fc 93=5 by decide +kernel] at k;omega
 cases l with
 | nil =>
  cases m with
  | nil=>simp [Lib.join_nil] at h; exact⟨.nil,h⟩
  | cons b t=>rw [List.map_cons,Lib.join_cons,List.append_assoc] at h; exact(i b _ _ (hm b (by simp)) h.symm).elim
 | cons a r =>
  cases m with
  | nil=>rw [List.map_cons,Lib.join_cons,List.append_assoc] at h; exact(i a _ _ (hl a (by simp)) h).elim
  | cons b t =>
   rw [List.map_cons,List.map_cons,Lib.join_cons,Lib.join_cons,List.append_assoc,List.append_assoc] at h;obtain⟨o,p⟩:=f a b _ _ (hl a (by simp)) (hm b (by simp)) (oV (yA _)) (oV (yA _)) h;obtain⟨q,s⟩:=Lb f r t x y (fun a h=>hl a (by simp [h])) (fun a h=>hm a (by simp [h])) p;exact⟨.cons o q,s⟩
def pw (p:Bs×af):Bs:=eS p.1 (wr p.2)
theorem D9:∀(f:List Bs) (ws:List af),List.zipWith eS f (ws.map wr)=(f.zip ws).map pw
 | [],_=>by simp
 | _::_,[]=>by simp
 | a::r,b::t=>by simp [D9 r t,pw]
def En (x:Bs):Prop:=x=[]\/(∃r,x=125::r)\/∃r,x=41::r
theorem En.st {x:Bs}(h:En x):St x:=by
 rcases h with h|⟨r,h⟩|⟨r,h⟩
 ·exact .inl h
 ·exact .inr ⟨125,r,h,by decide +kernel⟩
 ·exact .inr ⟨41,r,h,by decide +kernel⟩
def PR (n:Nat) (p q:Bs×af):Prop:=p.1=q.1/\nw n p.2 q.2
theorem Lc {n:Nat}(g:s6 n){p q:Bs×af}{x y:Bs}(b:bQ p.1=true/\Pl n p.2) (hq:bQ q.1=true/\Pl n q.2) (hx:St x) (i:St y) (h:pw p++x=pw q++y):PR n p q/\x=y:=by
 unfold pw eS at h;simp only [List.append_assoc] at h;have f:∀(z:Bs) (c:UInt8) (r:Bs),[58,32]++z=c::r->gy c=false:=by
  intro z c r h;simp only [List.cons_append,List.cons.injEq] at h;rw [<- h.1]; decide +kernel
 obtain⟨j,k⟩:=run_eq gy _ _ _ _ (jx b.1).1 (jx hq.1).1 (f _) (f _) h;obtain⟨l,m⟩:=g _ _ _ _ b.2 hq.2 hx i (List.append_cancel_left k);exact⟨⟨j,l⟩,m⟩
theorem Lf {n:Nat}{p:Bs×af}(b:bQ p.1=true/\Pl n p.2){x y:Bs}(f:En y) (h:pw p++x=y):False:=by
 obtain⟨h1,c,r,e,_⟩:=jx b.1;unfold pw eS at h;rw [e] at h;rcases f with rfl|⟨t,rfl⟩|⟨t,rfl⟩
 ·cases h
 ·simp only [List.cons_append,List.cons.injEq] at h;exact(KQ c (h1 c (by rw [e]; simp))).1 h.1
 ·simp only [List.cons_append,List.cons.injEq] at h;exact(KQ c (h1 c (by rw [e]; simp))).2 h.1
theorem Lg {n:Nat}(g:s6 n):∀(l m:List (Bs×af)) (x y:Bs),En x->En y->(∀p∈l,bQ p.1=true/\Pl n p.2)->(∀p∈m,bQ p.1=true/\Pl n p.2)->Lib.joinTail cZ (l.map pw)++x=Lib.joinTail cZ (m.map pw)++y->aR (PR n) l m/\x=y
 | [],[],x,y,_,_,_,_,h=>by simp [Lib.joinTail] at h; exact⟨.nil,h⟩
 | [],b::t,x,y,hx,_,_,_,h=>by
  rw [List.map_cons,tail_cons] at h;rcases hx with rfl|⟨r,rfl⟩|⟨r,rfl⟩<;>simp [Lib.joinTail,cZ] at h
 | a::r,[],x,y,_,f,_,_,h=>by
  rw [List.map_cons,tail_cons] at h;rcases f with rfl|⟨r,rfl⟩|⟨r,rfl⟩<;>simp [Lib.joinTail,cZ] at h
 | a::r,b::t,x,y,hx,f,i,j,h=>by
  rw [List.map_cons,List.map_cons,tail_cons,tail_cons,List.append_assoc,List.append_assoc,List.append_assoc,List.append_assoc] at h;obtain⟨k,o⟩:=Lc g (i a (by simp)) (j b (by simp)) (oV hx.st) (oV f.st) (List.append_cancel_left h);obtain⟨q,s⟩:=Lg g r t x y hx f (fun a h=>i a (by simp [h])) (fun a h=>j a (by simp [h])) o;exact⟨.cons k q,s⟩
theorem Lh {n:Nat}(g:s6 n) (l m:List (Bs×af)) (x y:Bs) (hx:En x) (f:En y) (hl:∀p∈l,bQ p.1=true/\Pl n p.2) (hm:∀p∈m,bQ p.1=true/\Pl n p.2) (h:Lib.join (l.map pw) cZ++x=Lib.join (m.map pw) cZ++y):aR (PR n) l m/\x=y:=by
 cases l with
 | nil =>
  cases m with
  | nil=>simp [Lib.join_nil] at h; exact⟨.nil,h⟩
  | cons b t=>rw [List.map_cons,Lib.join_cons,List.append_assoc] at h; exact(Lf (hm b (by simp)) hx (h.symm.trans (by simp [Lib.join_nil]))).elim
 | cons a r =>
  cases m with
  | nil=>rw [List.map_cons,Lib.join_cons,List.append_assoc] at h; exact(Lf (hl a (by simp)) f (h.trans (by simp [Lib.join_nil]))).elim
  | cons b t =>
   rw [List.map_cons,List.map_cons,Lib.join_cons,Lib.join_cons,List.append_assoc,List.append_assoc] at h;obtain⟨i,j⟩:=Lc g (hl a (by simp)) (hm b (by simp)) (oV hx.st) (oV f.st) h;obtain⟨k,o⟩:=Lg g r t x y hx f (fun a h=>hl a (by simp [h])) (fun a h=>hm a (by simp [h])) j;exact⟨.cons i k,o⟩
theorem Li {n:Nat}:∀(f g:List Bs) (ws i:List af),f.length=ws.length->g.length=i.length->aR (PR n) (f.zip ws) (g.zip i)->f=g/\aR (nw n) ws i
 | [],[],[],[],_,_,_=>⟨rfl,.nil⟩
 | [],_::_,[],_::_,_,_,h=>by cases h
 | _::_,[],_::_,[],_,_,h=>by cases h
 | a::r,b::t,c::u,d::w,h1,j,h=>by
  simp only [List.zip_cons_cons] at h;cases h with
  | cons h h' =>
  obtain⟨k,l⟩:=Li r t u w (by simpa using h1) (by simpa using j) h';exact⟨by have m:a=b:=h.1; rw [m,k],.cons h.2 l⟩
theorem inj (n:Nat):s6 n:=by
 induction n with
 | zero=>intro v u x y h; exact h.elim
 | succ n H =>
  intro v u x y hv hu hx I h;obtain⟨s,N,J⟩:=hv;obtain⟨nu,ku,K⟩:=hu;have w:cl v=cl u:=by
   obtain⟨c,r,b,f1⟩:=D8 s;obtain⟨d,t,f,f2⟩:=D8 nu;rw [b,f] at h;simp only [List.cons_append,List.cons.injEq] at h;rw [<- f1,<- f2,h.1]
  obtain⟨O,P,Q,R,ad⟩:=yz s;obtain⟨t1,t2,t3,t4,_⟩:=yz nu;have hc:cl v=0\/cl v=1\/cl v=2\/cl v=3\/cl v=4:=by omega
  rcases hc with e|e|e|e|e
  ·have F:cl u=0:=by rw [<- w,e]
   obtain⟨b,f⟩:=run_eq gy _ _ _ _ (D7 s e).1 (D7 nu F).1 hx.name I.name h;refine⟨?_,f⟩;have key:v.ak=u.ak/\v.bl=u.bl/\v.aV=u.aV:=by
    have z:(v.ak=0->v.bl=0/\v.aV=[])/\(v.ak=1->v.aV=[])/\(v.ak=4->v.bl=0):=by
     rcases s with ⟨k,h⟩|⟨k,h⟩|⟨k,h⟩|⟨k,h⟩|⟨k,h⟩|⟨k,h⟩|⟨k,h⟩<;>simp [k]<;>simp [h]
    have B:(u.ak=0->u.bl=0/\u.aV=[])/\(u.ak=1->u.aV=[])/\(u.ak=4->u.bl=0):=by
     rcases nu with ⟨k,h⟩|⟨k,h⟩|⟨k,h⟩|⟨k,h⟩|⟨k,h⟩|⟨k,h⟩|⟨k,h⟩<;>simp [k]<;>simp [h]
    rcases D6 s e with ⟨k,a⟩|⟨k,i,a⟩|⟨k,i,a⟩|⟨k,a,_,g,j,m⟩<;>rcases D6 nu F with ⟨k',E⟩|⟨k',G,E⟩|⟨k',G,E⟩|⟨k',E,_,S,U,W⟩<;>rw [a,E] at b
    ·exact⟨by rw [k,k'],by rw [(z.1 k).1,(B.1 k').1],by rw [(z.1 k).2,(B.1 k').2]⟩
    ·exact absurd b (by decide)
    ·exact absurd b (by decide)
    ·exact absurd b.symm W
    ·exact absurd b (by decide)
    ·exact⟨by rw [k,k'],by rw [i,G],by rw [z.2.1 k,B.2.1 k']⟩
    ·exact absurd b (by decide)
    ·exact absurd b.symm U
    ·exact absurd b (by decide)
    ·exact absurd b (by decide)
    ·exact⟨by rw [k,k'],by rw [i,G],by rw [z.2.1 k,B.2.1 k']⟩
    ·exact absurd b.symm S
    ·exact absurd b m
    ·exact absurd b j
    ·exact absurd b g
    ·exact⟨by rw [k,k'],by rw [z.2.2 k,B.2.2 k'],b⟩
   have L:v.av.l=[]/\v.aF.l=[]:=by
    rcases s with ⟨k,h⟩|⟨k,h⟩|⟨k,h⟩|⟨k,h⟩|⟨k,h⟩|⟨k,h⟩|⟨k,h⟩<;>first|(simp [cl,k] at e; done)|simp [h]
   have M:u.av.l=[]/\u.aF.l=[]:=by
    rcases nu with ⟨k,h⟩|⟨k,h⟩|⟨k,h⟩|⟨k,h⟩|⟨k,h⟩|⟨k,h⟩|⟨k,h⟩<;>first|(simp [cl,k] at F; done)|simp [h]
   exact⟨key.1,key.2.1,key.2.2,by rw [L.2,M.2],by rw [L.1,M.1]; exact .nil⟩
  ·obtain⟨a1,a2,a3,a4,a5⟩:=O e;obtain⟨g,j,m,o,q⟩:=t1 (by rw [<- w,e]);rw [a2,j] at h;obtain⟨b,f⟩:=run_eq qA _ _ _ _ (uU _).1 (uU _).1 hx.num I.num h;exact⟨⟨by rw [a1,g],KU b,by rw [a3,m],by rw [a5,q],by rw [a4,o]; exact .nil⟩,f⟩
  ·obtain⟨a1,a2,a3,a4,a5⟩:=P e;obtain⟨g,j,m,o,q⟩:=t2 (by rw [<- w,e]);rw [a2,j] at h;obtain⟨b,f⟩:=KY h;exact⟨⟨by rw [a1,g],by rw [a3,m],b,by rw [a5,q],by rw [a4,o]; exact .nil⟩,f⟩
  ·obtain⟨a1,a2,a3,a4,a5⟩:=Q e;obtain⟨g,j,m,o,q⟩:=t3 (by rw [<- w,e]);rw [a2,j] at h;simp only [List.cons_append,List.append_assoc,List.cons.injEq,true_and,List.nil_append] at h;have X:∀v,Pl n v->Nd v:=fun v h=>by
    cases n with
    | zero=>exact h.elim
    | succ n=>exact h.1
   obtain⟨b,f⟩:=Vh H X _ _ _ _ J K h;exact⟨⟨by rw [a1,g],by rw [a3,m],by rw [a4,o],by rw [a5,q],b⟩,f⟩
  ·obtain⟨a1,a2,a3,a4,a5⟩:=R e;obtain⟨g,j,m,o,q⟩:=t4 (by rw [<- w,e]);rw [a2,j,D9,D9] at h;simp only [List.cons_append,List.append_assoc,List.cons.injEq,true_and,List.nil_append] at h;have Y:∀p∈v.aF.l.zip v.av.l,bQ p.1=true/\Pl n p.2:=fun p C=>⟨N _ (List.of_mem_zip C).1,J _ (List.of_mem_zip C).2⟩;have Z:∀p∈u.aF.l.zip u.av.l,bQ p.1=true/\Pl n p.2:=fun p C=>⟨ku _ (List.of_mem_zip C).1,K _ (List.of_mem_zip C).2⟩
   obtain⟨b,f⟩:=Lh H _ _ _ _ (.inr (.inl ⟨x,rfl⟩)) (.inr (.inl ⟨y,rfl⟩)) Y Z h;simp only [List.cons.injEq,true_and] at f;obtain⟨aa,ab⟩:=Li _ _ _ _ a5 q b;exact⟨⟨by rw [a1,g],by rw [a3,m],by rw [a4,o],aa,ab⟩,f⟩
def aw (t:ax):Bs:=pw (t.ai,t.cB)
def T (a:Sl ax):Bs:=Lib.join (a.l.map aw) cZ
theorem D_ {a:ax}(h:a.cB.wf):(aw a).length+2<=32*a.sz:=by
 have h1:=yt (a.cB.sz+1) a.cB (by omega) h;have b:=a.bI;have f:Bs.sz a.ai=a.ai.length+1:=rfl;have g:(aw a).length=a.ai.length+2+(wr a.cB).length:=by simp [aw,pw,eS]; omega
 omega
theorem Vi:∀(l:List ax) (i:Nat) (o:Bs),(∀a∈l,a.cB.sz<=1048576/\a.cB.wf)->o.length+(l.map fun x=>(aw x).length+2).sum<=1099511627776 ->
  l5 l i o=some (o++if i=0 then Lib.join (l.map aw) cZ else Lib.joinTail cZ (l.map aw)):=by
 intro l;induction l with
 | nil=>intro i o _ _; rw [l5]; split<;>simp [Lib.join_nil,Lib.joinTail]
 | cons a r b =>
  intro i o hx h;have g:(aw a).length=a.ai.length+2+(wr a.cB).length:=by simp [aw,pw,eS]; omega
  simp only [List.map_cons,List.sum_cons,g] at h;rw [l5];simp only [Ab.on];have f:=Vb (hx a (by simp)).1 (hx a (by simp)).2;have hr:=fun x j=>hx x (List.mem_cons_of_mem _ j);by_cases hi:i=0
  ·rw [show decide ((0:Int)<((i:Nat):Int))=false from dF (by omega),cond_false,oB,cM (by omega),oB,cM (by simp only [List.length_append,List.length_cons,List.length_nil]; omega),oB,f,oB,cM (by simp only [List.length_append,List.length_cons,List.length_nil]; omega),oB,b (i+1) _ hr (by simp only [List.length_append,List.length_cons,List.length_nil]; omega),if_neg (by omega),if_pos hi,List.map_cons,Lib.join_cons]
   simp [aw,pw,eS]
  ·rw [show decide ((0:Int)<((i:Nat):Int))=true from dT (by omega),cond_true,cM (by simp only [List.length_cons,List.length_nil]; omega),oB,oB,cM (by simp only [List.length_append,List.length_cons,List.length_nil]; omega),oB,cM (by simp only [List.length_append,List.length_cons,List.length_nil]; omega),oB,f,oB,cM (by simp only [List.length_append,List.length_cons,List.length_nil]; omega),oB,b (i+1) _ hr (by simp only [List.length_append,List.length_cons,List.length_nil]; omega),if_neg (by omega),if_neg hi,List.map_cons,tail_cons]
   simp [aw,pw,eS,cZ]
theorem Vj:∀(l:List ax) (s:Sl Bs),(∀a∈l,a.cB.sz<=1048576/\a.cB.wf/\(aw a).length<=1099511627)->s.l.length+l.length<=1099511627->∃t:Sl Bs,oz l s=some t/\t.l=s.l++l.map aw:=by
 intro l;induction l with
 | nil=>intro s _ _; exact⟨s,rfl,by simp⟩
 | cons a r b =>
  intro s hx h;simp only [List.length_cons] at h;obtain⟨h1,f,k⟩:=hx a (by simp);have m:(aw a).length=a.ai.length+2+(wr a.cB).length:=by simp [aw,pw,eS]; omega
  rw [oz];simp only [Ab.on];rw [cM (by simp only [List.length_cons,List.length_nil]; omega),oB,Vc h1 f,oB,cM (by simp only [List.length_append,List.length_cons,List.length_nil]; omega),oB,gG (by decide) (by show s.l.length+1<=_; omega),oB];obtain⟨t,g,i⟩:=b ⟨s.nl&&false,s.l++[a.ai++[58,32]++wr a.cB]⟩ (fun x j=>hx x (by simp [j])) (by simp; omega)
  exact⟨t,g,by rw [i]; simp [aw,pw,eS]⟩
theorem Vk (l:List ax):l.length<=(l.map ax.sz).sum:=by
 induction l with
 | nil=>simp
 | cons a r b=>have:=a.pos; simp only [List.length_cons,List.map_cons,List.sum_cons]; omega
theorem texts {a:Sl ax}(m:Sl.sz ax.sz a<=1048576) (hw:Sl.wf ax.wf a):xl a=some (T a)/\xW a=some (T a):=by
 have o:Sl.sz ax.sz a=1+(a.l.map ax.sz).sum:=rfl;have b:∀x∈a.l,x.cB.sz<=1048576/\x.cB.wf:=fun x hx=>⟨by have:=Sl.dy (f:=ax.sz) hx; have:=x.bI; omega,ax.zL (hw.2.2 x hx)⟩;have hlen:(a.l.map fun x=>(aw x).length+2).sum<=32*(a.l.map ax.sz).sum:=by
  rw [<- qz]; exact iN _ _ _ fun x hx=>D_ (b x hx).2
 have g:=oS (a.l.map aw);rw [List.map_map] at g;have p:(Lib.join (a.l.map aw) cZ).length<=(a.l.map fun x=>(aw x).length+2).sum:=g;have hc:=Vk a.l;constructor
 ·rw [Cd];unfold qm;obtain⟨t,i,j⟩:=Vj a.l (Sl.nil:Sl Bs) (fun x hx=>⟨(b x hx).1,(b x hx).2,by have:=D_ (b x hx).2; have:=Sl.dy (f:=ax.sz) hx; omega⟩) (by simp [Sl.nil]; omega);rw [i,oB];simp only [Ab.on];obtain⟨nl,l⟩:=t;have k:l=a.l.map aw:=by simpa [Sl.nil] using j
  subst k;rw [show xk ⟨nl,a.l.map aw⟩ ([44,32]:Bs)=some (Lib.join (a.l.map aw) cZ) from join_eq nl _ ⟨by rw [List.length_map]; omega,by omega⟩]; rfl
 ·rw [Ji];unfold qu;rw [Vi a.l 0 [] b (by simp only [List.length_nil]; omega),oB,if_pos rfl];rfl
def iI (a:Sl ax):Bs:=if a.l=[] then [] else [40]++T a++[41]
def iw (s:Bs):Bs:=if s=[] then [] else [32,64,100,101,102,101,114,40]++qt s++[41]
def gL (n:Int):Bs:=if n = -1 then [] else [32,64,115,116,114,101,97,109,40]++Lib.itoa n++[41]
def gr (on key name:Bs):Bs:=[32]++on++[46]++key++[58,32]++name
mutual
def jy:aj->Bs
 | .mk key on name args _ f g _ b=>gr on key name++iI args++iw f++gL g++(if b=[] then [] else [32]++([123]++eX b++[32,125]))
def eX:List aj->Bs
 | []=>[]
 | p::r=>jy p++eX r
end
def wB (l:List aj):Bs:=[123]++eX l++[32,125]
theorem oZ (p:aj):jy p=gr p.bz p.bn p.ai++iI p.aG++iw p.bZ++gL p.bW++(if p.aK.l=[] then [] else [32]++wB p.aK.l):=by
 cases p with
 | mk key on name args t b f nl g=>rw [jy]; rfl
theorem yB (l:List aj):(eX l).length=(l.map fun p=>(jy p).length).sum:=by
 induction l with
 | nil=>rw [eX]; rfl
 | cons a r b=>rw [eX,List.length_append,b]; rfl
theorem Vl {a:Sl ax}(hw:Sl.wf ax.wf a):(T a).length<=32*Sl.sz ax.sz a:=by
 have f:Sl.sz ax.sz a=1+(a.l.map ax.sz).sum:=rfl;have b:=oS (a.l.map aw);rw [List.map_map] at b;have hlen:(a.l.map fun x=>(aw x).length+2).sum<=32*(a.l.map ax.sz).sum:=by
  rw [<- qz]; exact iN _ _ _ fun x hx=>D_ (ax.zL (hw.2.2 x hx))
 have g:(Lib.join (a.l.map aw) cZ).length<=(a.l.map fun x=>(aw x).length+2).sum:=b;unfold T; omega
theorem Vm {a:Sl ax}(hw:Sl.wf ax.wf a):(iI a).length<=32*Sl.sz ax.sz a+2:=by
 have:=Vl hw;unfold iI; split
 ·simp
 ·simp only [List.length_append,List.length_cons,List.length_nil]; omega
theorem Vn (s:Bs):(iw s).length<=6*s.length+11:=by
 have:=KM s;unfold iw; split
 ·simp
 ·simp only [List.length_append,List.length_cons,List.length_nil]; omega
theorem Vo {n:Int}(h0 : -9223372036854775808<=n) (h1:n<=9223372036854775807):(gL n).length<=32:=by
 have:=yj h0 h1;unfold gL; split
 ·simp
 ·simp only [List.length_append,List.length_cons,List.length_nil]; omega
theorem Vp (n:Nat):∀p:aj,p.sz<n->p.wf->(jy p).length<=64*p.sz:=by
 induction n with
 | zero=>intro p h; omega
 | succ n b =>
  intro p hn hw;have g:=p.bI;have hk:Bs.sz p.bn=p.bn.length+1:=rfl;have i:Bs.sz p.bz=p.bz.length+1:=rfl;have hm:Bs.sz p.ai=p.ai.length+1:=rfl;have hl:Bs.sz p.bZ=p.bZ.length+1:=rfl;have j:Sl.sz aj.sz p.aK=1+(p.aK.l.map aj.sz).sum:=rfl;have h1:=Vm (aj.vU hw);have k:=Vn p.bZ;have m:=Vo (aj.rf hw).1 (aj.rf hw).2;have o:(p.aK.l.map fun x=>(jy x).length).sum<=64*(p.aK.l.map aj.sz).sum:=by
   rw [<- qz];exact iN _ _ _ fun x hx=>b x (by have:=Sl.dy (f:=aj.sz) hx; omega) ((aj.pS hw).2.2 x hx)
  have q:=yB p.aK.l;rw [oZ];unfold gr wB
  split<;>simp only [List.length_append,List.length_cons,List.length_nil]<;>omega
theorem cc {β:Type}{o s:Bs}{k:Bs->Option β}(h:o.length+s.length<=1152921504606846976):(a_ o s).bind k=k (o++s):=by rw [cM h]; rfl
theorem Lj (l:List aj):decide ((0:Int)<((l.length:Nat):Int))=!decide (l=[]):=by
 cases l with
 | nil=>rfl
 | cons a r=>rw [dT (by simp only [List.length_cons]; omega),dF (by simp)]; rfl
theorem Ll (l:List ax):decide ((0:Int)<((l.length:Nat):Int))=!decide (l=[]):=by
 cases l with
 | nil=>rfl
 | cons a r=>rw [dT (by simp only [List.length_cons]; omega),dF (by simp)]; rfl
theorem Lm (rec:Sl aj->Option Bs):∀(l:List aj) (o:Bs),(∀p∈l,p.wf/\p.sz<=1048576/\rec p.aK=some (wB p.aK.l))->o.length+(l.map fun p=>(jy p).length).sum<=1099511627776 ->
  lm rec l o=some (o++eX l)
 | [],o,_,_=>by rw [lm,eX,List.append_nil]
 | p::r,o,h,g=>by
  obtain⟨pw,ps,i⟩:=h p (by simp);have P:=p.bI;have hl:Bs.sz p.bZ=p.bZ.length+1:=rfl;simp only [List.map_cons,List.sum_cons] at g;have e:=oZ p;have el:=congrArg List.length e;have j:qu p.aG=some (T p.aG):=(texts (by omega) (aj.vU pw)).2;have hq:nq p.bZ=some (qt p.bZ):=KN _ (by omega);have hi:jW p.bW=some (Lib.itoa p.bW):=yl (aj.rf pw).1 (aj.rf pw).2
  rw [lm];simp only [Ab.on];unfold gr at el;simp only [List.length_append,List.length_cons,List.length_nil] at el;rw [cc (by simp only [List.length_cons,List.length_nil]; omega),cc (by simp only [List.length_append,List.length_cons,List.length_nil]; omega),cc (by simp only [List.length_append,List.length_cons,List.length_nil]; omega),
   cc (by simp only [List.length_append,List.length_cons,List.length_nil]; omega),cc (by simp only [List.length_append,List.length_cons,List.length_nil]; omega),cc (by simp only [List.length_append,List.length_cons,List.length_nil]; omega)]
  have k:o++[32]++p.bz++[46]++p.bn++[58,32]++p.ai=o++gr p.bz p.bn p.ai:=by unfold gr; simp
  rw [k];have m:(gr p.bz p.bn p.ai).length=p.bz.length+p.bn.length+p.ai.length+4:=by unfold gr; simp only [List.length_append,List.length_cons,List.length_nil]; omega
  generalize gr p.bz p.bn p.ai=f at e m ⊢;have s:(bif (decide ((0:Int)<((p.aG.l.length:Nat):Int))) then((a_ (o++f) ([40]:Bs)).bind fun t=>(qu p.aG).bind fun u=>(a_ t u).bind fun v=>(a_ v ([41]:Bs)).bind fun w=>some w) else(some (o++f)))=some (o++f++iI p.aG):=by
   rw [Ll];unfold iI at el ⊢;by_cases b:p.aG.l=[]
   ·rw [dT b,if_pos b]; simp
   ·rw [if_neg b] at el;simp only [List.length_append,List.length_cons,List.length_nil] at el;rw [dF b,if_neg b,Bool.not_false,cond_true,cc (by simp only [List.length_append,List.length_cons,List.length_nil]; omega),j,oB,cc (by simp only [List.length_append,List.length_cons,List.length_nil]; omega),cc (by simp only [List.length_append,List.length_cons,List.length_nil]; omega)]
    simp
  rw [s,oB];generalize iI p.aG=A at e el ⊢;have x:(bif (!(p.bZ==([]:Bs))) then((a_ (o++f++A) ([32,64,100,101,102,101,114,40]:Bs)).bind fun y=>(nq p.bZ).bind fun z=>(a_ y z).bind fun E=>(a_ E ([41]:Bs)).bind fun F=>some F) else(some (o++f++A)))=some (o++f++A++iw p.bZ):=by
   unfold iw at el ⊢;by_cases b:p.bZ=[]
   ·rw [if_pos b,b]; simp
   ·rw [if_neg b] at el;simp only [List.length_append,List.length_cons,List.length_nil] at el;rw [if_neg b,show (p.bZ==([]:Bs))=false from beq_eq_false_iff_ne.2 b,Bool.not_false,cond_true,cc (by simp only [List.length_append,List.length_cons,List.length_nil]; omega),hq,oB,cc (by simp only [List.length_append,List.length_cons,List.length_nil]; omega),cc (by simp only [List.length_append,List.length_cons,List.length_nil]; omega)]
    simp
  rw [x,oB];generalize iw p.bZ=B at e el ⊢;have G:(bif (!decide (p.bW=(-1:Int))) then((a_ (o++f++A++B) ([32,64,115,116,114,101,97,109,40]:Bs)).bind fun H=>(jW p.bW).bind fun I=>(a_ H I).bind fun J=>(a_ J ([41]:Bs)).bind fun K=>some K) else(some (o++f++A++B)))=some (o++f++A++B++gL p.bW):=by
   unfold gL at el ⊢;by_cases b:p.bW = -1
   ·rw [if_pos b,dT b]; simp
   ·rw [if_neg b] at el;simp only [List.length_append,List.length_cons,List.length_nil] at el;rw [if_neg b,dF b,Bool.not_false,cond_true,cc (by simp only [List.length_append,List.length_cons,List.length_nil]; omega),hi,oB,cc (by simp only [List.length_append,List.length_cons,List.length_nil]; omega),cc (by simp only [List.length_append,List.length_cons,List.length_nil]; omega)]
    simp
  rw [G,oB];generalize gL p.bW=C at e el ⊢;have L:(bif (decide ((0:Int)<((p.aK.l.length:Nat):Int))) then((a_ (o++f++A++B++C) ([32]:Bs)).bind fun M=>(rec p.aK).bind fun N=>(a_ M N).bind fun O=>some O) else(some (o++f++A++B++C)))=some (o++jy p):=by
   rw [Lj,e];by_cases b:p.aK.l=[]
   ·rw [if_pos b,dT b]; simp
   ·rw [if_neg b] at el;simp only [List.length_append,List.length_cons,List.length_nil] at el;rw [if_neg b,dF b,Bool.not_false,cond_true,cc (by simp only [List.length_append,List.length_cons,List.length_nil]; omega),i,oB,cc (by simp only [List.length_append,List.length_cons,List.length_nil]; omega)];simp
  rw [L,oB,Lm rec r _ (fun q hq=>h q (List.mem_cons_of_mem _ hq)) (by rw [List.length_append]; omega),eX,List.append_assoc]
theorem Ea {l:List aj}(h:∀p∈l,p.wf):(l.map fun p=>(jy p).length).sum<=64*(l.map aj.sz).sum:=by
 rw [<- qz];exact iN _ _ _ fun x hx=>Vp (x.sz+1) x (by omega) (h x hx)
theorem Vq (n:Nat):∀a:Sl aj,(∀p∈a.l,p.sz<n/\p.wf)->(a.l.map aj.sz).sum<=1048576->∀m,n<m->kf m a=some (wB a.l):=by
 induction n with
 | zero =>
  intro a h _ m hm;obtain⟨m,rfl⟩:∃k,m=k+1:=⟨m-1,by omega⟩;obtain⟨nl,l⟩:=a;cases l with
  | nil=>rw [kf,lm]; rfl
  | cons p r=>exact absurd (h p (by simp)).1 (by omega)
 | succ n g =>
  intro a h i m hm;obtain⟨m,rfl⟩:∃k,m=k+1:=⟨m-1,by omega⟩;have hl:=Ea fun p b=>(h p b).2;have j:=yB a.l;rw [kf,Lm _ a.l [123] (fun p b=>?_) (by simp only [List.length_cons,List.length_nil]; omega),oB]
  ·simp only [Ab.on];rw [cc (by simp only [List.length_append,List.length_cons,List.length_nil]; omega)];rfl
  ·have h1:p.sz<=(a.l.map aj.sz).sum:=F9 b;have o:=p.bI;have q:Sl.sz aj.sz p.aK=1+(p.aK.l.map aj.sz).sum:=rfl;have s:=(h p b).1;refine⟨(h p b).2,by omega,g p.aK (fun x hx=>⟨by have:=Sl.dy (f:=aj.sz) hx; omega,(aj.pS (h p b).2).2.2 x hx⟩) (by omega) m (by omega)⟩
theorem Ln (rec:Sl aj->Option Bs):∀(l:List aj) (o:Bs),(∀p∈l,p.wf/\p.sz<=1048576/\rec p.aK=some (wB p.aK.l))->o.length+(l.map fun p=>(jy p).length).sum<=1099511626000 ->
  k_ rec l (bb o)=some (bb (o++eX l))
 | [],o,_,_=>by rw [k_,eX,List.append_nil]
 | p::r,o,h,i=>by
  obtain⟨pw,ps,j⟩:=h p (by simp);have R:=p.bI;have hl:Bs.sz p.bZ=p.bZ.length+1:=rfl;simp only [List.map_cons,List.sum_cons] at i;have e:=oZ p;have el:=congrArg List.length e;have k:qm p.aG=some (T p.aG):=(Cd _).symm.trans (texts (by omega) (aj.vU pw)).1;have hq:oy p.bZ=some (qt p.bZ):=KP _ (by omega);have hi:ng p.bW=some (Lib.itoa p.bW):=DN (aj.rf pw).1 (aj.rf pw).2
  rw [k_];simp only [Ab.on];unfold gr at el;simp only [List.length_append,List.length_cons,List.length_nil] at el;rw [cc (by simp only [List.length_cons,List.length_nil]; omega),cc (by simp only [List.length_append,List.length_cons,List.length_nil]; omega),cc (by simp only [List.length_append,List.length_cons,List.length_nil]; omega),
   cc (by simp only [List.length_append,List.length_cons,List.length_nil]; omega),cc (by simp only [List.length_append,List.length_cons,List.length_nil]; omega)]
  have m:[32]++p.bz++[46]++p.bn++[58,32]++p.ai=gr p.bz p.bn p.ai:=rfl;rw [m];have s:(gr p.bz p.bn p.ai).length=p.bz.length+p.bn.length+p.ai.length+4:=by unfold gr; simp only [List.length_append,List.length_cons,List.length_nil]; omega
  generalize gr p.bz p.bn p.ai=f at e s ⊢;obtain⟨S,t⟩:=lp o f (by omega);rw [t,oB];simp only [];have u:(bif (decide ((0:Int)<((p.aG.l.length:Nat):Int))) then((qm p.aG).bind fun v=>(a_ ([40]:Bs) v).bind fun w=>(a_ w ([41]:Bs)).bind fun x=>(fW (bb (o++f)) x).bind fun y=>some y.2.2) else(some (bb (o++f))))=some (bb (o++f++iI p.aG)):=by
   rw [Ll];unfold iI at el ⊢;by_cases b:p.aG.l=[]
   ·rw [dT b,if_pos b]; simp
   ·rw [if_neg b] at el;simp only [List.length_append,List.length_cons,List.length_nil] at el;obtain⟨k2,g⟩:=lp (o++f) ([40]++T p.aG++[41]) (by simp only [List.length_append,List.length_cons,List.length_nil]; omega);rw [dF b,if_neg b,Bool.not_false,cond_true,k,oB,cc (by simp only [List.length_cons,List.length_nil]; omega),cc (by simp only [List.length_append,List.length_cons,List.length_nil]; omega),g]; rfl
  rw [u,oB];generalize iI p.aG=A at e el ⊢;have z:(bif (!(p.bZ==([]:Bs))) then((oy p.bZ).bind fun E=>(a_ ([32,64,100,101,102,101,114,40]:Bs) E).bind fun F=>(a_ F ([41]:Bs)).bind fun G=>(fW (bb (o++f++A)) G).bind fun H=>some H.2.2) else(some (bb (o++f++A))))=some (bb (o++f++A++iw p.bZ)):=by
   unfold iw at el ⊢;by_cases b:p.bZ=[]
   ·rw [if_pos b,b]; simp
   ·rw [if_neg b] at el;simp only [List.length_append,List.length_cons,List.length_nil] at el;obtain⟨k2,g⟩:=lp (o++f++A) ([32,64,100,101,102,101,114,40]++qt p.bZ++[41]) (by simp only [List.length_append,List.length_cons,List.length_nil]; omega);rw [if_neg b,show (p.bZ==([]:Bs))=false from beq_eq_false_iff_ne.2 b,Bool.not_false,cond_true,hq,oB,cc (by simp only [List.length_cons,List.length_nil]; omega),cc (by simp only [List.length_append,List.length_cons,List.length_nil]; omega),g]; rfl
  rw [z,oB];generalize iw p.bZ=B at e el ⊢;have I:(bif (!decide (p.bW=(-1:Int))) then((ng p.bW).bind fun J=>(a_ ([32,64,115,116,114,101,97,109,40]:Bs) J).bind fun K=>(a_ K ([41]:Bs)).bind fun L=>(fW (bb (o++f++A++B)) L).bind fun M=>some M.2.2) else(some (bb (o++f++A++B))))=some (bb (o++f++A++B++gL p.bW)):=by
   unfold gL at el ⊢;by_cases b:p.bW = -1
   ·rw [if_pos b,dT b]; simp
   ·rw [if_neg b] at el;simp only [List.length_append,List.length_cons,List.length_nil] at el;obtain⟨k2,g⟩:=lp (o++f++A++B) ([32,64,115,116,114,101,97,109,40]++Lib.itoa p.bW++[41]) (by simp only [List.length_append,List.length_cons,List.length_nil]; omega);rw [if_neg b,dF b,Bool.not_false,cond_true,hi,oB,cc (by simp only [List.length_cons,List.length_nil]; omega),cc (by simp only [List.length_append,List.length_cons,List.length_nil]; omega),g]; rfl
  rw [I,oB];generalize gL p.bW=C at e el ⊢;have N:(bif (decide ((0:Int)<((p.aK.l.length:Nat):Int))) then((rec p.aK).bind fun O=>(a_ ([32]:Bs) O).bind fun P=>(fW (bb (o++f++A++B++C)) P).bind fun Q=>some Q.2.2) else(some (bb (o++f++A++B++C))))=some (bb (o++jy p)):=by
   rw [Lj,e];by_cases b:p.aK.l=[]
   ·rw [if_pos b,dT b]; simp
   ·rw [if_neg b] at el;simp only [List.length_append,List.length_cons,List.length_nil] at el;obtain⟨k2,g⟩:=lp (o++f++A++B++C) ([32]++wB p.aK.l) (by simp only [List.length_append,List.length_cons,List.length_nil]; omega);rw [if_neg b,dF b,Bool.not_false,cond_true,j,oB,cc (by simp only [List.length_cons,List.length_nil]; omega),g,oB];simp
  rw [N,oB,Ln rec r _ (fun q hq=>h q (List.mem_cons_of_mem _ hq)) (by rw [List.length_append]; omega),eX,List.append_assoc]
theorem Vr (n:Nat):∀a:Sl aj,(∀p∈a.l,p.sz<n/\p.wf)->(a.l.map aj.sz).sum<=1048576->∀m,n<m->jZ m a=some (wB a.l):=by
 have z0:fW bx.zero ([123]:Bs)=some (1,(),bb [123]):=by rfl
 induction n with
 | zero =>
  intro a h _ m hm;obtain⟨m,rfl⟩:∃k,m=k+1:=⟨m-1,by omega⟩;obtain⟨nl,l⟩:=a;cases l with
  | nil =>
   rw [jZ,z0,oB,k_,oB];simp only [Ab.on];obtain⟨k,w⟩:=lp [123] [32,125] (by decide);rw [w,oB];rw [D3 _ (by simp)]; rfl
  | cons p r=>exact absurd (h p (by simp)).1 (by omega)
 | succ n g =>
  intro a h i m hm;obtain⟨m,rfl⟩:∃k,m=k+1:=⟨m-1,by omega⟩;have hl:=Ea fun p b=>(h p b).2;have j:=yB a.l;rw [jZ,z0,oB,Ln _ a.l [123] (fun p b=>?_) (by simp only [List.length_cons,List.length_nil]; omega),oB]
  ·simp only [Ab.on];obtain⟨k,w⟩:=lp ([123]++eX a.l) [32,125] (by simp only [List.length_append,List.length_cons,List.length_nil]; omega);rw [w,oB,D3 _ (by simp)];rfl
  ·have h1:p.sz<=(a.l.map aj.sz).sum:=F9 b;have o:=p.bI;have q:Sl.sz aj.sz p.aK=1+(p.aK.l.map aj.sz).sum:=rfl;have s:=(h p b).1;refine⟨(h p b).2,by omega,g p.aK (fun x hx=>⟨by have:=Sl.dy (f:=aj.sz) hx; omega,(aj.pS (h p b).2).2.2 x hx⟩) (by omega) m (by omega)⟩
def s7 (k:Int):Bs:=if k=1 then [113,117,101,114,121] else if k=2 then [109,117,116,97,116,105,111,110] else if k=3 then [115,117,98,115,99,114,105,112,116,105,111,110] else Lib.itoa k
def jA (p:bU):Bs:=s7 p.ak++[32]++wB p.aK.l
theorem Vt:um ([81,117,101,114,121]:Bs)=some [113,117,101,114,121]:=by kernel_rfl
theorem Vu:um ([77,117,116,97,116,105,111,110]:Bs)=some [109,117,116,97,116,105,111,110]:=by kernel_rfl
theorem Vv:um ([83,117,98,115,99,114,105,112,116,105,111,110]:Bs)=some [115,117,98,115,99,114,105,112,116,105,111,110]:=by kernel_rfl
theorem Lo {p:bU}(pw:p.wf) (ps:p.sz<=1048576):qn p=some (jA p)/\qv p=some (jA p):=by
 have i:p.sz=0+1+Sl.sz aj.sz p.aK:=p.bI;have hi:Sl.sz aj.sz p.aK=1+(p.aK.l.map aj.sz).sum:=rfl;have g:∀x∈p.aK.l,x.sz<1048577/\x.wf:=fun x hx=>⟨by have:=Sl.dy (f:=aj.sz) hx; omega,(bU.pS pw).2.2 x hx⟩;have h1:xm p.aK=some (wB p.aK.l):=Vr 1048577 p.aK g (by omega) F0 (by rw [eD]; omega);have b:Dw p.aK=some (wB p.aK.l):=Vq 1048577 p.aK g (by omega) F0 (by rw [eD]; omega)
 have hl:=Ea fun x hx=>(g x hx).2;have j:=yB p.aK.l;have hw:(wB p.aK.l).length=(eX p.aK.l).length+3:=by unfold wB; simp only [List.length_append,List.length_cons,List.length_nil]; omega
 have hk:=bU.OI pw;have k:(Lib.itoa p.ak).length<=22:=yj hk.1 hk.2;constructor
 ·unfold qn;rw [DN hk.1 hk.2,oB];simp only [Ab.on];unfold jA s7 ue;by_cases c1:p.ak=1
  ·rw [if_pos c1,dT c1,cond_true];rw [show ((!(([81,117,101,114,121]:Bs)==([]:Bs))))=true from rfl,cond_true,Vt,oB,oB,cc (by decide),h1,oB,cc (by simp only [List.length_append,List.length_cons,List.length_nil]; omega)]
  ·rw [if_neg c1,dF c1,cond_false];by_cases c2:p.ak=2
   ·rw [if_pos c2,dT c2,cond_true];rw [show ((!(([77,117,116,97,116,105,111,110]:Bs)==([]:Bs))))=true from rfl,cond_true,Vu,oB,oB,cc (by decide),h1,oB,cc (by simp only [List.length_append,List.length_cons,List.length_nil]; omega)]
   ·rw [if_neg c2,dF c2,cond_false];by_cases c3:p.ak=3
    ·rw [if_pos c3,dT c3,cond_true];rw [show ((!(([83,117,98,115,99,114,105,112,116,105,111,110]:Bs)==([]:Bs))))=true from rfl,cond_true,Vv,oB,oB,cc (by decide),h1,oB,cc (by simp only [List.length_append,List.length_cons,List.length_nil]; omega)]
    ·rw [if_neg c3,dF c3,cond_false];rw [show ((!(([]:Bs)==([]:Bs))))=false from rfl,cond_false,oB,cc (by simp only [List.length_cons,List.length_nil]; omega),h1,oB,cc (by simp only [List.length_append,List.length_cons,List.length_nil]; omega)]
 ·unfold qv uH jA s7;by_cases c1:p.ak=1
  ·rw [if_pos c1,dT c1,cond_true,oB,cc (by decide),b,oB,cc (by simp only [List.length_append,List.length_cons,List.length_nil]; omega)]
  ·rw [if_neg c1,dF c1,cond_false];by_cases c2:p.ak=2
   ·rw [if_pos c2,dT c2,cond_true,oB,cc (by decide),b,oB,cc (by simp only [List.length_append,List.length_cons,List.length_nil]; omega)]
   ·rw [if_neg c2,dF c2,cond_false];by_cases c3:p.ak=3
    ·rw [if_pos c3,dT c3,cond_true,oB,cc (by decide),b,oB,cc (by simp only [List.length_append,List.length_cons,List.length_nil]; omega)]
    ·rw [if_neg c3,dF c3,cond_false,yl hk.1 hk.2,oB,oB,cc (by simp only [List.length_cons,List.length_nil]; omega),b,oB,cc (by simp only [List.length_append,List.length_cons,List.length_nil]; omega)]
def uV (x y:ax):Prop:=x.ai=y.ai/\iH F0 x.cB y.cB
def SP:Nat->aj->aj->Prop
 | 0,_,_=>False
 | n+1,p,q=>(p.bn=q.bn/\p.bz=q.bz/\p.ai=q.ai/\p.bZ=q.bZ/\p.bW=q.bW/\gX p.aO q.aO=true)/\aR uV p.aG.l q.aG.l/\aR (SP n) p.aK.l q.aK.l
theorem uW {α:Type}{R:α->α->Prop}{l m:List α}(h:aR R l m):l.length=m.length:=by
 induction h with
 | nil=>rfl
 | cons _ _ b=>simp [b]
theorem drop_one {α:Type}{l:List α}{i:Nat}(h:i<l.length):l.drop i=l[i]::l.drop (i+1):=List.drop_eq_getElem_cons h
theorem l7 {α:Type}{R:α->α->Prop}{a b:α}{l m:List α}:aR R (a::l) (b::m)↔R a b/\aR R l m:=⟨fun h=>by cases h with|cons h t=>exact⟨h,t⟩,fun h=>.cons h.1 h.2⟩
def uX (z:Unit ⊕ Bool) (b:Prop):Prop:=z=Sum.inl ()/\b\/z=Sum.inr false/\¬b
theorem Lp {R:aj->aj->Prop}{f:aj->aj->Option Bool}(a1:Sl aj):∀(l:List aj) (i:Nat),i+l.length=a1.l.length->(∀x∈l,∀y∈a1.l,∃z,f x y=some z/\(z=true↔R x y)) ->
  ∃z,oA a1 f l i=some z/\uX z (aR R l (a1.l.drop i))
 | [],i,hl,_=>⟨_,by rw [oA],.inl ⟨rfl,by rw [List.drop_of_length_le (by simp at hl; omega)]; exact .nil⟩⟩
 | x::r,i,hl,j=>by
  simp only [List.length_cons] at hl;have hi:i<a1.l.length:=by omega
  rw [oA,List.getElem?_eq_getElem hi,drop_one hi];simp only [Ab.on,oB];obtain⟨z,e,h⟩:=j x (by simp) a1.l[i] (List.getElem_mem hi);rw [e,oB];cases z with
  | false=>exact⟨_,rfl,.inr ⟨rfl,fun g=>by have:=h.2 (l7.1 g).1; cases this⟩⟩
  | true =>
   obtain⟨z2,k,g⟩:=Lp a1 r (i+1) (by omega) fun x hx=>j x (List.mem_cons_of_mem _ hx);refine⟨z2,k,g.imp (fun b=>⟨b.1,.cons (h.1 rfl) b.2⟩) fun b=>⟨b.1,fun m=>b.2 (l7.1 m).2⟩⟩
theorem Lq {R:aj->aj->Prop}{f:aj->aj->Option Bool}{a b:Sl aj}(i:∀x∈a.l,∀y∈b.l,∃z,f x y=some z/\(z=true↔R x y)):∃z,ur a b f=some z/\(z=true↔aR R a.l b.l):=by
 unfold ur;by_cases hl:a.l.length=b.l.length
 ·rw [dT (by omega:((a.l.length:Nat):Int)=((b.l.length:Nat):Int))];obtain⟨z,e,h⟩:=Lp (R:=R) b a.l 0 (by omega) i;rw [Bool.not_true,cond_false,e,oB];rcases h with ⟨rfl,h⟩|⟨rfl,h⟩
  ·exact⟨true,rfl,fun _=>h,fun _=>rfl⟩
  ·exact⟨false,rfl,fun g=>(by cases g),fun g=>absurd g h⟩
 ·rw [dF (by omega:¬((a.l.length:Nat):Int)=((b.l.length:Nat):Int))];exact⟨false,rfl,fun h=>(by cases h),fun h=>absurd (uW h) hl⟩
theorem Lr {R:ax->ax->Prop}{f:ax->ax->Option Bool}(a1:Sl ax):∀(l:List ax) (i:Nat),i+l.length=a1.l.length->(∀x∈l,∀y∈a1.l,∃z,f x y=some z/\(z=true↔R x y)) ->
  ∃z,oC a1 f l i=some z/\uX z (aR R l (a1.l.drop i))
 | [],i,hl,_=>⟨_,by rw [oC],.inl ⟨rfl,by rw [List.drop_of_length_le (by simp at hl; omega)]; exact .nil⟩⟩
 | x::r,i,hl,j=>by
  simp only [List.length_cons] at hl;have hi:i<a1.l.length:=by omega
  rw [oC,List.getElem?_eq_getElem hi,drop_one hi];simp only [Ab.on,oB];obtain⟨z,e,h⟩:=j x (by simp) a1.l[i] (List.getElem_mem hi);rw [e,oB];cases z with
  | false=>exact⟨_,rfl,.inr ⟨rfl,fun g=>by have:=h.2 (l7.1 g).1; cases this⟩⟩
  | true =>
   obtain⟨z2,k,g⟩:=Lr a1 r (i+1) (by omega) fun x hx=>j x (List.mem_cons_of_mem _ hx);refine⟨z2,k,g.imp (fun b=>⟨b.1,.cons (h.1 rfl) b.2⟩) fun b=>⟨b.1,fun m=>b.2 (l7.1 m).2⟩⟩
theorem Vw {R:ax->ax->Prop}{f:ax->ax->Option Bool}{a b:Sl ax}(i:∀x∈a.l,∀y∈b.l,∃z,f x y=some z/\(z=true↔R x y)):∃z,uv a b f=some z/\(z=true↔aR R a.l b.l):=by
 unfold uv;by_cases hl:a.l.length=b.l.length
 ·rw [dT (by omega:((a.l.length:Nat):Int)=((b.l.length:Nat):Int))];obtain⟨z,e,h⟩:=Lr (R:=R) b a.l 0 (by omega) i;rw [Bool.not_true,cond_false,e,oB];rcases h with ⟨rfl,h⟩|⟨rfl,h⟩
  ·exact⟨true,rfl,fun _=>h,fun _=>rfl⟩
  ·exact⟨false,rfl,fun g=>(by cases g),fun g=>absurd g h⟩
 ·rw [dF (by omega:¬((a.l.length:Nat):Int)=((b.l.length:Nat):Int))];exact⟨false,rfl,fun h=>(by cases h),fun h=>absurd (uW h) hl⟩
theorem Vx {x y:ax}(f:y.cB.sz<=1048576):∃z,qp x y=some z/\(z=true↔uV x y):=by
 rw [RG];unfold xy uV;obtain⟨b,e,h⟩:=UU (v:=x.cB) f;rw [e];by_cases hn:x.ai=y.ai
 ·rw [show (x.ai==y.ai)=true from beq_iff_eq.2 hn];exact⟨b,rfl,h.trans ⟨fun k=>⟨hn,k⟩,fun k=>k.2⟩⟩
 ·rw [show (x.ai==y.ai)=false from beq_eq_false_iff_ne.2 hn];exact⟨false,rfl,fun k=>(by cases k),fun k=>absurd k.1 hn⟩
theorem Ls (p q:aj):(!(((((!(p.bn==q.bn))||(!(p.bz==q.bz)))||(!(p.ai==q.ai)))||(!(p.bZ==q.bZ)))||(!decide (p.bW=q.bW))))=true↔p.bn=q.bn/\p.bz=q.bz/\p.ai=q.ai/\p.bZ=q.bZ/\p.bW=q.bW:=by
 simp [and_assoc]
theorem Lt {a:Sl ax}(h:Sl.sz ax.sz a<=1048576):∀y∈a.l,y.cB.sz<=1048576:=fun y b=>by have:=Sl.dy (f:=ax.sz) b; have:=y.bI; omega
theorem Vy (n:Nat):(∀(a b:Sl aj),(∀x∈b.l,x.sz<n/\x.sz<=1048576)->∀m,2*n<m->∃z,nh m a b=some z/\(z=true↔aR (SP n) a.l b.l)):=by
 induction n with
 | zero =>
  intro a b g m hm;obtain⟨m,rfl⟩:∃k,m=k+1:=⟨m-1,by omega⟩;obtain⟨z,e,h⟩:=Lq (R:=SP 0) (f:=fun i j=>(oF m) i j) (a:=a) (b:=b) fun x hx y o=>absurd (g y o).1 (by omega);exact⟨z,by rw [nh,e]; rfl,h⟩
 | succ n s =>
  intro a b g m hm;obtain⟨m,rfl⟩:∃k,m=k+2:=⟨m-2,by omega⟩;obtain⟨z,e,h⟩:=Lq (R:=SP (n+1)) (f:=fun i j=>(oF (m+1)) i j) (a:=a) (b:=b) fun p w q hq=>by
   have B:=q.bI;obtain⟨h1,C⟩:=g q hq;obtain⟨t,u,r⟩:=s p.aK q.aK (fun x hx=>by have:=Sl.dy (f:=aj.sz) hx; omega) m (by omega);obtain⟨z2,v,k2⟩:=Vw (R:=uV) (f:=qp) (a:=p.aG) (b:=q.aG) fun x _ y o=>Vx (Lt (by omega) y o);have hh:=Ls p q;rw [oF,Uq,u,v,SP]
   revert hh
   generalize (((((!(p.bn==q.bn))||(!(p.bz==q.bz)))||(!(p.ai==q.ai)))||(!(p.bZ==q.bZ)))||(!decide (p.bW=q.bW)))=c;intro hh;cases c with
   | true=>exact⟨false,rfl,fun k=>(by cases k),fun k=>by have:=hh.2 ⟨k.1.1,k.1.2.1,k.1.2.2.1,k.1.2.2.2.1,k.1.2.2.2.2.1⟩; cases this⟩
   | false =>
    obtain⟨g1,g2,g3,g4,g5⟩:=hh.1 rfl;cases E:gX p.aO q.aO with
    | false=>exact⟨false,rfl,fun k=>(by cases k),fun k=>by have:=k.1.2.2.2.2.2; cases this⟩
    | true =>
     cases t with
     | false=>exact⟨false,rfl,fun k=>(by cases k),fun k=>by have:=r.2 k.2.2; cases this⟩
     | true=>exact⟨z2,rfl,fun k=>⟨⟨g1,g2,g3,g4,g5,rfl⟩,k2.1 k,r.1 rfl⟩,fun k=>k2.2 k.2.1⟩
  exact⟨z,by rw [nh,e]; rfl,h⟩
theorem Lu (q:aj) (hq:∀y∈q.aG.l,y.cB.sz<=1048576):∀(l:List ax) (i:Nat),i+l.length=q.aG.l.length->∃z,kY q l i=some z/\uX z (aR uV l (q.aG.l.drop i))
 | [],i,hl=>⟨_,by rw [kY],.inl ⟨rfl,by rw [List.drop_of_length_le (by simp at hl; omega)]; exact .nil⟩⟩
 | x::r,i,hl=>by
  simp only [List.length_cons] at hl;have hi:i<q.aG.l.length:=by omega
  rw [kY,List.getElem?_eq_getElem hi,drop_one hi];simp only [Ab.on,oB];obtain⟨b,e,h⟩:=KJ (v:=x.cB) (hq _ (List.getElem_mem hi));obtain⟨z2,g,j⟩:=Lu q hq r (i+1) (by omega);by_cases hn:x.ai=q.aG.l[i].ai
  ·rw [show (x.ai==q.aG.l[i].ai)=true from beq_iff_eq.2 hn];simp only [Bool.not_true,Bool.not_false,cond_true,aQ,if_true,oB,Bool.false_or,e];cases b with
   | false=>exact⟨_,rfl,.inr ⟨rfl,fun k=>by have:=h.2 (l7.1 k).1.2; cases this⟩⟩
   | true=>exact⟨z2,g,j.imp (fun f=>⟨f.1,.cons ⟨hn,h.1 rfl⟩ f.2⟩) fun f=>⟨f.1,fun m=>f.2 (l7.1 m).2⟩⟩
  ·rw [show (x.ai==q.aG.l[i].ai)=false from beq_eq_false_iff_ne.2 hn];exact⟨_,rfl,.inr ⟨rfl,fun k=>hn (l7.1 k).1.1⟩⟩
theorem Lv (n:Nat) (b:Sl aj) (rec:Sl aj->Sl aj->Option Bool) (hr:∀q∈b.l,q.sz<=1048576/\∀p:aj,∃z,rec p.aK q.aK=some z/\(z=true↔aR (SP n) p.aK.l q.aK.l)):∀(l:List aj) (i:Nat),i+l.length=b.l.length ->
  ∃z,jw b rec l i=some z/\uX z (aR (SP (n+1)) l (b.l.drop i))
 | [],i,hl=>⟨_,by rw [jw],.inl ⟨rfl,by rw [List.drop_of_length_le (by simp at hl; omega)]; exact .nil⟩⟩
 | p::r,i,hl=>by
  simp only [List.length_cons] at hl;have hi:i<b.l.length:=by omega
  rw [jw,List.getElem?_eq_getElem hi,drop_one hi];simp only [Ab.on,oB];obtain⟨G,v⟩:=hr _ (List.getElem_mem hi);obtain⟨w,x,j⟩:=v p;obtain⟨z2,B,C⟩:=Lv n b rec hr r (i+1) (by omega);have H:=(b.l[i]).bI;have s:=Lu b.l[i] (Lt (by omega)) p.aG.l 0;have hh:=Ls p b.l[i];rw [J',DL,x];generalize b.l[i]=q at hh j s ⊢
  revert hh
  generalize (((((!(p.bn==q.bn))||(!(p.bz==q.bz)))||(!(p.ai==q.ai)))||(!(p.bZ==q.bZ)))||(!decide (p.bW=q.bW)))=c;intro hh;have no:¬SP (n+1) p q->∃z,(some (Sum.inr false):Option (Unit ⊕ Bool))=some z/\uX z (aR (SP (n+1)) (p::r) (q::b.l.drop (i+1))):=fun hn=>⟨_,rfl,.inr ⟨rfl,fun k=>hn (l7.1 k).1⟩⟩;cases c with
  | true=>exact no fun k=>by rw [SP] at k; have:=hh.2 ⟨k.1.1,k.1.2.1,k.1.2.2.1,k.1.2.2.2.1,k.1.2.2.2.2.1⟩; cases this
  | false =>
   obtain⟨g1,g2,g3,g4,g5⟩:=hh.1 rfl;cases t:gX p.aO q.aO with
   | false=>exact no fun k=>by rw [SP] at k; have:=k.1.2.2.2.2.2; rw [t] at this; cases this
   | true =>
    by_cases hl:p.aG.l.length=q.aG.l.length
    ·rw [dT (by omega:((p.aG.l.length:Nat):Int)=((q.aG.l.length:Nat):Int))];cases w with
     | false=>exact no fun k=>by rw [SP] at k; have:=j.2 k.2.2; cases this
     | true =>
      obtain⟨y,u,f⟩:=s (by omega);rcases f with ⟨rfl,f⟩|⟨rfl,f⟩
      ·have E:SP (n+1) p q:=by rw [SP]; exact⟨⟨g1,g2,g3,g4,g5,t⟩,f,j.1 rfl⟩
       refine⟨z2, ?_,C.imp (fun g=>⟨g.1,.cons E g.2⟩) fun g=>⟨g.1,fun F=>g.2 (l7.1 F).2⟩⟩;show (Option.bind (kY q p.aG.l 0) fun m=>match m with|Sum.inl _=>jw b rec r (i+1)|Sum.inr o=>some (Sum.inr o))=_;rw [u]; exact B
      ·refine⟨Sum.inr false, ?_,.inr ⟨rfl,fun k=>?_⟩⟩
       ·show (Option.bind (kY q p.aG.l 0) fun m=>match m with|Sum.inl _=>jw b rec r (i+1)|Sum.inr o=>some (Sum.inr o))=_;rw [u]; rfl
       have k:=(l7.1 k).1;rw [SP] at k; exact f k.2.1
    ·rw [dF (by omega:¬((p.aG.l.length:Nat):Int)=((q.aG.l.length:Nat):Int))];exact no fun k=>by rw [SP] at k; exact hl (uW k.2.1)
theorem Vz (n:Nat):∀(a b:Sl aj),(∀x∈b.l,x.sz<n/\x.sz<=1048576)->∀m,n<m->∃z,iU m a b=some z/\(z=true↔aR (SP n) a.l b.l):=by
 have fin:∀(k:Nat) (a b:Sl aj) (m:Nat),(∀q∈b.l,q.sz<=1048576/\∀p:aj,∃z,iU m p.aK q.aK=some z/\(z=true↔aR (SP k) p.aK.l q.aK.l))->∃z,iU (m+1) a b=some z/\(z=true↔aR (SP (k+1)) a.l b.l):=by
  intro k a b m h;rw [iU];by_cases hl:a.l.length=b.l.length
  ·rw [dT (by omega:((a.l.length:Nat):Int)=((b.l.length:Nat):Int))];obtain⟨z,e,g⟩:=Lv k b _ h a.l 0 (by omega);rw [Bool.not_true,cond_false,e,oB];rcases g with ⟨rfl,g⟩|⟨rfl,g⟩
   ·exact⟨true,rfl,fun _=>g,fun _=>rfl⟩
   ·exact⟨false,rfl,fun j=>(by cases j),fun j=>absurd j g⟩
  ·rw [dF (by omega:¬((a.l.length:Nat):Int)=((b.l.length:Nat):Int))];exact⟨false,rfl,fun h=>(by cases h),fun h=>absurd (uW h) hl⟩
 induction n with
 | zero =>
  intro a b i m hm;obtain⟨m,rfl⟩:∃k,m=k+1:=⟨m-1,by omega⟩;have h0:b.l=[]:=List.eq_nil_iff_forall_not_mem.2 fun x hx=>absurd (i x hx).1 (by omega);rw [iU,h0];cases s:a.l with
  | nil=>exact⟨true,by rw [dT rfl,Bool.not_true,cond_false,jw]; rfl,fun _=>.nil,fun _=>rfl⟩
  | cons x r=>exact⟨false,by rw [dF (by simp only [List.length_cons,List.length_nil]; omega)]; rfl,fun h=>(by cases h),fun h=>by cases h⟩
 | succ n o =>
  intro a b i m hm;obtain⟨m,rfl⟩:∃k,m=k+1:=⟨m-1,by omega⟩;exact fin n a b m fun q hq=>⟨(i q hq).2,fun p=>o p.aK q.aK (fun x hx=>by have:=Sl.dy (f:=aj.sz) hx; have:=q.bI; have:=i q hq; omega) m (by omega)⟩
theorem VA {a b:Sl aj}(h:Sl.sz aj.sz b<=1048576):∃z,Cm a b=some z/\xf a b=some z/\(z=true↔aR (SP 1048577) a.l b.l):=by
 have g:∀x∈b.l,x.sz<1048577/\x.sz<=1048576:=fun x hx=>by have:=Sl.dy (f:=aj.sz) hx; omega
 obtain⟨z,e,k⟩:=Vy 1048577 a b g F0 (by rw [eD]; omega);obtain⟨y,i,k2⟩:=Vz 1048577 a b g F0 (by rw [eD]; omega);have:z=y:=by
  cases z<;>cases y
  ·rfl
  ·exact absurd (k.2 (k2.1 rfl)) (by simp)
  ·exact absurd (k2.2 (k.1 rfl)) (by simp)
  ·rfl
 subst this;exact⟨z,e,i,k⟩
def s8 (x:Bs):Prop:=∃c r,x=32::c::r/\(lq c=true\/c=125)
def yC (n:Nat) (p q:ax):Prop:=p.ai=q.ai/\nw n p.cB q.cB
def ny (m:Nat):Nat->aj->Prop
 | 0,_=>False
 | n+1,p=>bQ p.bz=true/\bQ p.bn=true/\bQ p.ai=true/\(∀a∈p.aG.l,bQ a.ai=true/\Pl m a.cB)/\∀x∈p.aK.l,ny m n x
def PE (m:Nat):Nat->aj->aj->Prop
 | 0,_,_=>False
 | n+1,p,q=>(p.bn=q.bn/\p.bz=q.bz/\p.ai=q.ai/\p.bZ=q.bZ/\p.bW=q.bW)/\aR (yC m) p.aG.l q.aG.l/\aR (PE m n) p.aK.l q.aK.l
theorem s9 {c:UInt8}(h:c=46\/c=58\/c=40\/c=32):gy c=false:=by
 rcases h with rfl|rfl|rfl|rfl<;>decide +kernel
theorem VB (c:UInt8):lq c=true->c≠64/\c≠123:=by
 revert c; apply kg; decide +kernel
theorem Lw (c:UInt8):lq c=true->c≠125:=by
 revert c; apply kg; decide +kernel
theorem Eb {c:UInt8}(h:lq c=true\/c=125):c≠64/\c≠123:=by
 rcases h with h|rfl
 ·exact VB c h
 ·decide
theorem args_inj {m:Nat}{a b:Sl ax}{x y:Bs}(g:∀t∈a.l,bQ t.ai=true/\Pl m t.cB) (i:∀t∈b.l,bQ t.ai=true/\Pl m t.cB) (h:T a++41::x=T b++41::y):aR (yC m) a.l b.l/\x=y:=by
 have hm:∀l:List ax,l.map aw=(l.map fun t=>(t.ai,t.cB)).map pw:=fun l=>by rw [List.map_map]; rfl
 unfold T at h;rw [hm,hm] at h;obtain⟨j,o⟩:=Lh (inj m) _ _ _ _ (.inr (.inr ⟨x,rfl⟩)) (.inr (.inr ⟨y,rfl⟩)) (fun p f=>by obtain⟨t,ht,rfl⟩:=List.mem_map.1 f; exact g t ht) (fun p f=>by obtain⟨t,ht,rfl⟩:=List.mem_map.1 f; exact i t ht) h;refine⟨?_,by injection o⟩;have back:∀l k:List ax,aR (PR m) (l.map fun t=>(t.ai,t.cB)) (k.map fun t=>(t.ai,t.cB))->aR (yC m) l k:=by
  intro l;induction l with
  | nil=>intro k h; cases k with
   | nil=>exact .nil
   | cons _ _=>cases h
  | cons a r q=>intro k h; cases k with
   | nil=>cases h
   | cons b t=>cases h with
    | cons h1 s=>exact .cons h1 (q t s)
 exact back _ _ j
theorem Ec {p:aj}{x:Bs}(hx:s8 x):∃c r,iw p.bZ++gL p.bW++(if p.aK.l=[] then [] else [32]++wB p.aK.l)++x=32::c::r:=by
 obtain⟨c,r,rfl,_⟩:=hx;unfold iw gL wB
 split<;>split<;>split<;>exact⟨_,_,rfl⟩
theorem VC {m:Nat}{a b:Sl ax}{x y:Bs}(g:∀t∈a.l,bQ t.ai=true/\Pl m t.cB) (i:∀t∈b.l,bQ t.ai=true/\Pl m t.cB) (hx:∃c r,x=32::c::r) (j:∃c r,y=32::c::r) (h:iI a++x=iI b++y):aR (yC m) a.l b.l/\x=y:=by
 obtain⟨c,r,rfl⟩:=hx;obtain⟨d,s,rfl⟩:=j;unfold iI at h;by_cases h1:a.l=[]
 ·by_cases f:b.l=[]
  ·rw [if_pos h1,if_pos f] at h;rw [h1,f]; exact⟨.nil,h⟩
  ·rw [if_pos h1,if_neg f] at h; simp at h
 ·by_cases f:b.l=[]
  ·rw [if_neg h1,if_pos f] at h; simp at h
  ·rw [if_neg h1,if_neg f] at h;simp only [List.cons_append,List.nil_append,List.append_assoc,List.cons.injEq,true_and] at h;exact args_inj g i h
theorem VD {s t:Bs}{x y:Bs}(hx:∃c r,x=32::c::r/\(c≠64\/∃d u,r=d::u/\d≠100)) (g:∃c r,y=32::c::r/\(c≠64\/∃d u,r=d::u/\d≠100)) (h:iw s++x=iw t++y):s=t/\x=y:=by
 unfold iw at h;by_cases h1:s=[]
 ·by_cases b:t=[]
  ·rw [if_pos h1,if_pos b] at h; exact⟨by rw [h1,b],h⟩
  ·rw [if_pos h1,if_neg b] at h;obtain⟨c,r,rfl,hc⟩:=hx;simp only [List.nil_append,List.cons_append,List.append_assoc,List.cons.injEq] at h;rcases hc with hc|⟨d,u,rfl,f⟩
   ·exact absurd h.2.1 hc
   ·simp only [List.cons.injEq] at h; exact absurd h.2.2.1 f
 ·by_cases b:t=[]
  ·rw [if_neg h1,if_pos b] at h;obtain⟨c,r,rfl,hc⟩:=g;simp only [List.nil_append,List.cons_append,List.append_assoc,List.cons.injEq] at h;rcases hc with hc|⟨d,u,rfl,f⟩
   ·exact absurd h.2.1.symm hc
   ·simp only [List.cons.injEq] at h; exact absurd h.2.2.1.symm f
  ·rw [if_neg h1,if_neg b] at h;simp only [List.cons_append,List.nil_append,List.append_assoc,List.cons.injEq,true_and] at h;obtain⟨i,j⟩:=KY h;exact⟨i,by injection j⟩
theorem VE {s t:Int}{x y:Bs}(hx:∃c r,x=32::c::r/\c≠64) (g:∃c r,y=32::c::r/\c≠64) (h:gL s++x=gL t++y):s=t/\x=y:=by
 unfold gL at h;have f:∀(z:Bs) (c:UInt8) (r:Bs),41::z=c::r->qA c=false:=fun z c r h=>by
  simp only [List.cons.injEq] at h; rw [<- h.1]; decide +kernel
 by_cases h1:s = -1
 ·by_cases b:t = -1
  ·rw [if_pos h1,if_pos b] at h; exact⟨by rw [h1,b],h⟩
  ·rw [if_pos h1,if_neg b] at h;obtain⟨c,r,rfl,hc⟩:=hx;simp only [List.nil_append,List.cons_append,List.append_assoc,List.cons.injEq] at h;exact absurd h.2.1 hc
 ·by_cases b:t = -1
  ·rw [if_neg h1,if_pos b] at h;obtain⟨c,r,rfl,hc⟩:=g;simp only [List.nil_append,List.cons_append,List.append_assoc,List.cons.injEq] at h;exact absurd h.2.1.symm hc
  ·rw [if_neg h1,if_neg b] at h;simp only [List.cons_append,List.nil_append,List.append_assoc,List.cons.injEq,true_and] at h;obtain⟨i,j⟩:=run_eq qA _ _ _ _ (uU s).1 (uU t).1 (f _) (f _) h;exact⟨KU i,by injection j⟩
theorem VF {o o' k k' n b:Bs}{x y:Bs}(h1:bQ o=true) (i:bQ o'=true) (j:bQ k=true) (l:bQ k'=true) (m:bQ n=true) (p:bQ b=true)
  (hx:∀c r,x=c::r->gy c=false) (q:∀c r,y=c::r->gy c=false) (h:gr o k n++x=gr o' k' b++y):(k=k'/\o=o'/\n=b)/\x=y:=by
 unfold gr at h;simp only [List.cons_append,List.nil_append,List.append_assoc,List.cons.injEq,true_and] at h;have st:∀(s:UInt8),gy s=false->∀(z:Bs) (c:UInt8) (r:Bs),s::z=c::r->gy c=false:=fun s t z c r h=>by
  simp only [List.cons.injEq] at h; rw [<- h.1]; exact t
 obtain⟨u,f⟩:=run_eq gy _ _ _ _ (jx h1).1 (jx i).1 (st 46 (s9 (.inl rfl)) _) (st 46 (s9 (.inl rfl)) _) h;simp only [List.cons.injEq,true_and] at f;obtain⟨v,g⟩:=run_eq gy _ _ _ _ (jx j).1 (jx l).1 (st 58 (s9 (.inr (.inl rfl))) _) (st 58 (s9 (.inr (.inl rfl))) _) f;simp only [List.cons.injEq,true_and] at g;obtain⟨w,B⟩:=run_eq gy _ _ _ _ (jx m).1 (jx p).1 hx q g
 exact⟨⟨v,u,w⟩,B⟩
theorem Lx {m n:Nat}{l:List aj}(h:∀p∈l,ny m n p) (z:Bs):s8 (eX l++([32,125]++z)):=by
 cases l with
 | nil=>rw [eX]; exact⟨125,z,rfl,.inr rfl⟩
 | cons p r =>
  cases n with
  | zero=>exact(h p (by simp)).elim
  | succ n =>
   obtain⟨b,_⟩:=h p (by simp);obtain⟨_,c,t,e,hc⟩:=jx b;rw [eX,oZ]; unfold gr;rw [e];exact⟨c,_,by simp only [List.cons_append,List.nil_append,List.append_assoc]; rfl,.inl hc⟩
theorem Ly {p:aj}{x:Bs}(hx:s8 x):(∃c r,(if p.aK.l=[] then [] else [32]++wB p.aK.l)++x=32::c::r/\c≠64) /\
  ∃c r,gL p.bW++((if p.aK.l=[] then [] else [32]++wB p.aK.l)++x)=32::c::r/\(c≠64\/∃d u,r=d::u/\d≠100):=by
 have h1:∃c r,(if p.aK.l=[] then [] else [32]++wB p.aK.l)++x=32::c::r/\c≠64:=by
  obtain⟨c,r,rfl,hc⟩:=hx;unfold wB
  split
  ·exact⟨c,r,rfl,(Eb hc).1⟩
  ·exact⟨123,_,rfl,by decide⟩
 refine⟨h1, ?_⟩;obtain⟨c,r,e,hc⟩:=h1;unfold gL
 split
 ·exact⟨c,r,e,.inl hc⟩
 ·exact⟨64,_,rfl,.inr ⟨115,_,rfl,by decide⟩⟩
theorem Lz {p:aj}{x:Bs}(hx:s8 x):∀c r,iI p.aG++(iw p.bZ++(gL p.bW++((if p.aK.l=[] then [] else [32]++wB p.aK.l)++x)))=c::r->gy c=false:=by
 intro c r h;obtain⟨d,s,e⟩:=Ec (p:=p) hx;simp only [List.append_assoc] at e;unfold iI at h
 split at h
 ·rw [List.nil_append,e] at h;simp only [List.cons.injEq] at h; rw [<- h.1]; exact s9 (.inr (.inr (.inr rfl)))
 ·simp only [List.cons_append,List.nil_append,List.append_assoc,List.cons.injEq] at h;rw [<- h.1]; exact s9 (.inr (.inr (.inl rfl)))
def LA (m n:Nat):Prop:=∀p q x y,ny m n p->ny m n q->s8 x->s8 y->jy p++x=jy q++y->PE m n p q/\x=y
theorem Ed {m n:Nat}(f:LA m n):∀(l k:List aj) (x y:Bs),(∀p∈l,ny m n p)->(∀p∈k,ny m n p)->eX l++([32,125]++x)=eX k++([32,125]++y)->aR (PE m n) l k/\x=y
 | [],[],x,y,_,_,h=>by
  rw [eX] at h;simp only [List.cons_append,List.nil_append,List.cons.injEq,true_and] at h;exact⟨.nil,h⟩
 | [],q::k,x,y,_,hk,h=>by
  obtain⟨c,r,e,hc⟩:∃c r,eX (q::k)++([32,125]++y)=32::c::r/\lq c=true:=by
   cases n with
   | zero=>exact(hk q (by simp)).elim
   | succ n =>
    obtain⟨_,c,t,e,hc⟩:=jx (hk q (by simp)).1;rw [eX,oZ]; unfold gr;rw [e];exact⟨c,_,by simp only [List.cons_append,List.nil_append,List.append_assoc]; rfl,hc⟩
  rw [e,eX] at h;simp only [List.cons_append,List.nil_append,List.cons.injEq,true_and] at h;have:=Lw c hc;exact absurd h.1.symm this
 | p::l,[],x,y,hl,_,h=>by
  obtain⟨c,r,e,hc⟩:∃c r,eX (p::l)++([32,125]++x)=32::c::r/\lq c=true:=by
   cases n with
   | zero=>exact(hl p (by simp)).elim
   | succ n =>
    obtain⟨_,c,t,e,hc⟩:=jx (hl p (by simp)).1;rw [eX,oZ]; unfold gr;rw [e];exact⟨c,_,by simp only [List.cons_append,List.nil_append,List.append_assoc]; rfl,hc⟩
  rw [e,eX] at h;simp only [List.cons_append,List.nil_append,List.cons.injEq,true_and] at h;have:=Lw c hc;exact absurd h.1 this
 | p::l,q::k,x,y,hl,hk,h=>by
  rw [eX,eX,List.append_assoc,List.append_assoc] at h;obtain⟨g,i⟩:=f p q _ _ (hl p (by simp)) (hk q (by simp)) (Lx (fun z b=>hl z (by simp [b])) x) (Lx (fun z b=>hk z (by simp [b])) y) h;obtain⟨j,o⟩:=Ed f l k x y (fun z b=>hl z (by simp [b])) (fun z b=>hk z (by simp [b])) i;exact⟨.cons g j,o⟩
theorem LB (m:Nat):∀n,LA m n
 | 0=>fun p q x y h=>h.elim
 | n+1=>fun p q x y i hq hx b h=>by
  obtain⟨j,k,o,t,u⟩:=i;obtain⟨v,w,z,B,C⟩:=hq;rw [oZ,oZ] at h;simp only [List.append_assoc] at h;obtain⟨⟨a1,a2,a3⟩,h⟩:=VF j v k w o z (Lz hx) (Lz b) h;obtain⟨c1,E,f⟩:=Ec (p:=p) hx;obtain⟨c2,F,g⟩:=Ec (p:=q) b;simp only [List.append_assoc] at f g;obtain⟨a4,h⟩:=VC t B ⟨c1,E,f⟩ ⟨c2,F,g⟩ h;obtain⟨G,k2⟩:=Ly (p:=p) hx;obtain⟨H,I⟩:=Ly (p:=q) b
  obtain⟨a5,h⟩:=VD k2 I h;obtain⟨J,h⟩:=VE G H h;have fin:aR (PE m n) p.aK.l q.aK.l/\x=y:=by
   obtain⟨c,r,ex,hc⟩:=hx;obtain⟨d,s,K,L⟩:=b;unfold wB at h;by_cases g1:p.aK.l=[]
   ·by_cases g2:q.aK.l=[]
    ·rw [if_pos g1,if_pos g2] at h;rw [g1,g2]; exact⟨.nil,h⟩
    ·rw [if_pos g1,if_neg g2,ex] at h;simp only [List.cons_append,List.nil_append,List.cons.injEq,true_and] at h;exact absurd h.1 (Eb hc).2
   ·by_cases g2:q.aK.l=[]
    ·rw [if_neg g1,if_pos g2,K] at h;simp only [List.cons_append,List.nil_append,List.cons.injEq,true_and] at h;exact absurd h.1.symm (Eb L).2
    ·rw [if_neg g1,if_neg g2] at h;simp only [List.append_assoc,List.cons_append,List.nil_append,List.cons.injEq,true_and] at h;exact Ed (LB m n) _ _ x y u C h
  exact⟨⟨⟨a1,a2,a3,a5,J⟩,a4,fin.1⟩,fin.2⟩
theorem VG {m n:Nat}{l k:List aj}(hl:∀p∈l,ny m n p) (hk:∀p∈k,ny m n p) (h:wB l=wB k):aR (PE m n) l k:=by
 unfold wB at h;simp only [List.append_assoc,List.cons_append,List.nil_append,List.cons.injEq,true_and] at h;exact(Ed (LB m n) l k [] [] hl hk (by simpa using h)).1
mutual
def lf:af->Prop
 | .mk k _ _ _ items keys=>(k=1\/k=2\/k=3->items=[]/\keys.l=[])/\uY items
def uY:List af->Prop
 | []=>True
 | v::r=>lf v/\uY r
end
theorem VH (l:List af):uY l↔∀x∈l,lf x:=by
 induction l with
 | nil=>rw [uY]; simp
 | cons a r b=>rw [uY,b]; simp
theorem qB (v:af):lf v↔(v.ak=1\/v.ak=2\/v.ak=3->v.av.l=[]/\v.aF.l=[])/\∀x∈v.av.l,lf x:=by
 cases v with
 | mk k i t nl items keys=>rw [lf,VH]; rfl
mutual
def eT:af->Prop
 | .mk k _ _ _ items keys=>(k=6->keys.l.length=items.length)/\(∀x∈keys.l,bQ x=true)/\uZ items
def uZ:List af->Prop
 | []=>True
 | v::r=>eT v/\uZ r
end
theorem VI (l:List af):uZ l↔∀x∈l,eT x:=by
 induction l with
 | nil=>rw [uZ]; simp
 | cons a r b=>rw [uZ,b]; simp
theorem u4 (v:af):eT v↔(v.ak=6->v.aF.l.length=v.av.l.length)/\(∀x∈v.aF.l,bQ x=true)/\∀x∈v.av.l,eT x:=by
 cases v with
 | mk k i t nl items keys=>rw [eT,VI]; rfl
def s_:af:=af.mk (0:Int) (0:Int) ([]:Bs) true ([]) (Sl.nil:Sl Bs)
theorem Ee (k i:Int) (t:Bs) (h:k≠6):eT (af.mk k i t true ([]) (Sl.nil:Sl Bs)):=by
 rw [u4]; exact⟨fun e=>absurd e h,fun x hx=>(by cases hx),fun x hx=>(by cases hx)⟩
theorem nA:eT s_:=Ee 0 0 [] (by decide)
theorem yD:lf s_:=by rw [qB]; exact⟨fun _=>⟨rfl,rfl⟩,fun x hx=>by cases hx⟩
theorem yE {v:af}(h:lf v) (hk:v.ak=1\/v.ak=2\/v.ak=3):eT v:=by
 obtain⟨h1,b⟩:=((qB v).1 h).1 hk;rw [u4,h1,b];exact⟨fun _=>rfl,fun x hx=>(by cases hx),fun x hx=>by cases hx⟩
theorem yF {s r u:Sl af}(h:bp 80 s r=some u):u.l=s.l++r.l:=by rw [(pK h).1]
theorem VJ (n:Nat):∀v r,iS n v=some r->lf v->lf r:=by
 induction n using Nat.strongRecOn with
 | _ n j =>
  intro v r h hv;cases n with
  | zero=>cases h
  | succ n =>
   rw [iS] at h;obtain⟨g,b,h⟩:=cS h;obtain⟨k,m,h⟩:=cS h;cases h;cases n with
   | zero=>cases b
   | succ n =>
    rw [rN] at b;obtain⟨y,o,b⟩:=cS b;cases b;have loop:∀(l:List af) (s:Sl af) (y:Sl af),kT (iS n) l s=some y->(∀x∈l,lf x)->(∀x∈s.l,lf x)->(∀x∈y.l,lf x)/\y.l.length=s.l.length+l.length:=by
     intro l;induction l with
     | nil=>intro s y h _ f; rw [kT] at h; cases h; exact⟨f,rfl⟩
     | cons a r p =>
      intro s y h hl f;rw [kT] at h;obtain⟨z,q,h⟩:=cS h;obtain⟨u,i,h⟩:=cS h;obtain⟨g1,g2⟩:=p u y h (fun x hx=>hl x (by simp [hx])) (fun x hx=>by
       rw [yF i] at hx;rcases List.mem_append.1 hx with hx|hx
       ·exact f x hx
       ·rw [List.mem_singleton.1 hx]; exact j n (by omega) a z q (hl a (by simp)))
      exact⟨g1,by rw [g2,yF i]; simp; omega⟩
    obtain⟨h1,t⟩:=(qB v).1 hv;obtain⟨g1,g2⟩:=loop v.av.l Sl.nil g o t (fun x hx=>by cases hx);rw [qB];refine⟨fun hk=>?_,g1⟩;obtain⟨w,k2⟩:=h1 hk;refine⟨List.eq_nil_of_length_eq_zero (by show g.l.length=0; rw [g2,w]; rfl), ?_⟩;show k.l=[];rw [DW m,k2]; rfl
theorem VK {v:af}(h:lf v){s:Bs}{z:af×Bool}(e:jV v s=some z):lf z.1:=by
 have loop:∀(l:List Bs) (i:Nat) (o:Unit ⊕ (af×Bool)),kU v s l i=some o->(match o with|Sum.inl _=>True|Sum.inr p=>lf p.1):=by
  intro l;induction l with
  | nil=>intro i o h; rw [kU] at h; cases h; trivial
  | cons a r g =>
   intro i o h';rw [kU] at h';simp only [Ab.on] at h';cases b:a==s with
   | false=>rw [b,cond_false] at h'; exact g _ _ h'
   | true =>
    rw [b,cond_true] at h';cases f:decide (((v.av.l.length:Nat):Int)<=((i:Nat):Int)) with
    | true=>rw [f,cond_true] at h'; cases h'; exact yD
    | false =>
     rw [f,cond_false] at h';obtain⟨x,ex,h'⟩:=cS h';obtain⟨y,j,h'⟩:=cS h';cases h';exact VJ _ _ _ j (((qB v).1 h).2 x (List.mem_of_getElem? ex))
 unfold jV at e;cases hk:(!decide (v.ak=(6:Int))) with
 | true=>rw [hk,cond_true] at e; cases e; exact yD
 | false =>
  rw [hk,cond_false] at e;obtain⟨o,k,e⟩:=cS e;have:=loop _ _ _ k;cases o with
  | inl u=>cases e; exact yD
  | inr p=>cases e; exact this
def o3 (d:ar) (w:Z4):Prop:=w.Fd=d/\(w.fC=true->w.en=s_)
def er (w w':Z4):Prop:=w'.Fd=w.Fd/\w'.en=w.en/\w'.fC=w.fC
theorem er.rfl' (w:Z4):er w w:=⟨rfl,rfl,rfl⟩
theorem er.trans {a b c:Z4}(h:er a b) (g:er b c):er a c:=⟨g.1.trans h.1,g.2.1.trans h.2.1,g.2.2.trans h.2.2⟩
theorem o3.of {d:ar}{a b:Z4}(h:o3 d a) (g:er a b):o3 d b:=⟨g.1.trans h.1,fun e=>g.2.1.trans (h.2 (g.2.2.symm.trans e))⟩
theorem l8 (w:Z4) (e:Int):er w (fE w e):=by
 unfold fE;cases decide (w.dz=(0:Int))<;>exact⟨rfl,rfl,rfl⟩
theorem VL {w w':Z4}{l:Int}(h:kV w l=some w'):er w w':=by
 unfold kV at h;simp only [Ab.on] at h;have h0:er w (bif decide ((24:Int)<l) then fE w 5 else w):=by
  cases decide ((24:Int)<l)
  ·exact er.rfl' w
  ·exact l8 w 5
 revert h
 generalize (bif decide ((24:Int)<l) then fE w 5 else w)=y at h0 ⊢;intro h;obtain⟨x,_,h⟩:=cS h;cases hc:decide ((4096:Int)<x) with
 | true=>rw [hc,cond_true] at h; cases h; exact h0.trans (er.trans ⟨rfl,rfl,rfl⟩ (l8 _ _))
 | false=>rw [hc,cond_false] at h; cases h; exact h0.trans ⟨rfl,rfl,rfl⟩
theorem VM {w w':Z4}{n:Bs}{v x:af}(hv:lf v) (h:lR w n v=some (x,w')):eT x/\er w w':=by
 unfold lR at h;simp only [Ab.on] at h;cases c1:(((((n==([73,110,116]:Bs)))&&(decide (v.ak=(2:Int))))&&(decide ((-2147483648:Int)<=v.bl)))&&(decide (v.bl<(2147483648:Int)))) with
 | true =>
  rw [c1,cond_true] at h; cases h;simp at c1;exact⟨yE hv (.inr (.inl c1.1.1.2)),er.rfl' _⟩
 | false =>
  rw [c1,cond_false] at h;have key:∀b:Bool,(b=true->eT v)->(bif b then(some (v,w)) else(bif (((n==([73,68]:Bs)))&&(decide (v.ak=(2:Int)))) then((jW v.bl).bind fun g=>some ((af.mk (3:Int) (0:Int) g true ([]) (Sl.nil:Sl Bs)),w)) else(some ((af.mk (0:Int) (0:Int) ([]:Bs) true ([]) (Sl.nil:Sl Bs)),fE w (23:Int)))))=some (x,w')->eT x/\er w w':=by
   intro b f h;cases b with
   | true=>cases h; exact⟨f rfl,er.rfl' _⟩
   | false =>
    rw [cond_false] at h;cases c2:(((n==([73,68]:Bs)))&&(decide (v.ak=(2:Int)))) with
    | true =>
     rw [c2,cond_true] at h;obtain⟨y,_,h⟩:=cS h;cases h; exact⟨Ee _ _ _ (by decide),er.rfl' _⟩
    | false=>rw [c2,cond_false] at h; cases h; exact⟨nA,l8 _ _⟩
  refine key _ (fun f=>?_) h;cases d1:(((n==([83,116,114,105,110,103]:Bs)))&&(decide (v.ak=(3:Int)))) with
  | true=>simp at d1; exact yE hv (.inr (.inr d1.2))
  | false =>
   rw [d1,cond_false] at f;cases d2:(((n==([66,111,111,108,101,97,110]:Bs)))&&(decide (v.ak=(1:Int)))) with
   | true=>simp at d2; exact yE hv (.inl d2.2)
   | false=>rw [d2,cond_false] at f; simp at f; exact yE hv (.inr (.inr f.2))
theorem VN (w:Z4) (t:az) (v:af):eT (jt w t v).1/\er w (jt w t v).2:=by
 unfold jt;simp only [Ab.on];have loop:∀l:List Z9,jX w v l=Sum.inl ()\/∃p,jX w v l=Sum.inr p/\eT p.1/\er w p.2:=by
  intro l;induction l with
  | nil=>exact .inl rfl
  | cons a r b =>
   rw [jX];simp only [Ab.on];cases a.ai==v.aV
   ·exact b
   ·exact .inr ⟨_,rfl,Ee _ _ _ (by decide),er.rfl' _⟩
 cases ((decide (v.ak=(4:Int)))||((decide (v.ak=(3:Int)))&&(!w.fC)))
 ·exact⟨nA,l8 _ _⟩
 ·rw [cond_true];rcases loop t.cm.l with e|⟨p,e,h⟩
  ·rw [e]; exact⟨nA,l8 _ _⟩
  ·rw [e]; exact h
def Ef (t:az):Prop:=∀x∈t.bP.l,bQ x.ai=true/\(x.dO=true->lf x.eE)
def u6 (d:ar):Prop:=∀t∈d.aD.l,Ef t
theorem u6.dm {d:ar}(h:u6 d) (s:Bs):Ef (cV d s).1:=by
 rw [yf];rcases J4 d.aD.l s with e|e
 ·rw [e]; intro x hx; cases hx
 ·exact h _ e
def tc (d:ar) (f:Z4->aB->af->Int->Option (af×Z4)):Prop:=∀w t v l x w',o3 d w->lf v->f w t v l=some (x,w')->eT x/\er w w'
theorem VO {d:ar}{t:aB}{l:Int}{rec:Z4->aB->af->Int->Option (af×Z4)}(hr:tc d rec):∀(f:List af) (w:Z4) (acc:af) (z:Z4×af),o3 d w->(∀v∈f,lf v)->(acc.ak=5/\acc.aF.l=[]/\∀x∈acc.av.l,eT x) ->
  jv t l rec f w acc=some z->eT z.2/\er w z.1:=by
 have fin:∀acc:af,(acc.ak=5/\acc.aF.l=[]/\∀x∈acc.av.l,eT x)->eT acc:=fun acc b=>by
  rw [u4]; exact⟨fun e=>(by rw [b.1] at e; cases e),fun x hx=>(by rw [b.2.1] at hx; cases hx),b.2.2⟩
 intro f;induction f with
 | nil=>intro w acc z _ _ b h; rw [jv] at h; cases h; exact⟨fin _ b,er.rfl' _⟩
 | cons v r i =>
  intro w acc z hw hl b h;rw [jv] at h;simp only [Ab.on] at h;cases he:decide (w.dz=(0:Int)) with
  | false=>rw [he,cond_false] at h; cases h; exact⟨fin _ b,er.rfl' _⟩
  | true =>
   rw [he,cond_true] at h;obtain⟨p,_,h⟩:=cS h;obtain⟨⟨y,j⟩,k,h⟩:=cS h;obtain⟨u,m,h⟩:=cS h;obtain⟨c1,g⟩:=hr _ _ _ _ _ _ hw (hl v (by simp)) k;obtain⟨c2,o⟩:=i j (af.mk acc.ak acc.bl acc.aV u.nl u.l acc.aF) z (hw.of g) (fun x hx=>hl x (by simp [hx])) ⟨b.1,b.2.1,fun x hx=>by
    have hx:x∈u.l:=hx;rw [yF m] at hx;rcases List.mem_append.1 hx with hx|hx
    ·exact b.2.2 x hx
    ·rw [List.mem_singleton.1 hx]; exact c1⟩ h
   exact⟨c2,g.trans o⟩
theorem Eg (t:az):∀(l:List Bs) (w:Z4),er w (iT t l w)
 | [],w=>by rw [iT]; exact er.rfl' w
 | a::r,w=>by
  rw [iT];simp only [Ab.on];cases (!(jm t.bP a).2)
  ·exact Eg t r w
  ·exact(l8 w 22).trans (Eg t r _)
def Acc (acc:af):Prop:=acc.ak=6/\acc.aF.l.length=acc.av.l.length/\(∀x∈acc.aF.l,bQ x=true)/\∀x∈acc.av.l,eT x
theorem Acc.eT {acc:af}(h:Acc acc):eT acc:=by rw [u4]; exact⟨fun _=>h.2.1,h.2.2⟩
theorem VP {d:ar}{t:az}{v:af}(hv:lf v){l:Int}{rec p:Z4->aB->af->Int->Option (af×Z4)}(hr:tc d rec) (C:tc d p):∀(is:List Z8) (i:Nat) (w:Z4) (acc:af) (z:Z4×af),o3 d w ->
  (∀x∈is,bQ x.ai=true/\(x.dO=true->lf x.eE))->Acc acc->iE t v l rec p is i w acc=some z->eT z.2/\er w z.1:=by
 intro is;induction is with
 | nil=>intro i w acc z _ _ f h; rw [iE] at h; cases h; exact⟨f.eT,er.rfl' _⟩
 | cons a r E =>
  intro i w acc z hw hl f h;obtain⟨hn,F⟩:=hl a (by simp);rw [iE] at h;simp only [Ab.on] at h;cases he:decide (w.dz=(0:Int)) with
  | false=>rw [he,cond_false] at h; cases h; exact⟨f.eT,er.rfl' _⟩
  | true =>
   rw [he,cond_true] at h;obtain⟨G,_,h⟩:=cS h;obtain⟨⟨j,m⟩,b,h⟩:=cS h;have key:er w j/\Acc m:=by
    cases G with
    | true=>rw [cond_true] at b; cases b; exact⟨er.rfl' _,f⟩
    | false =>
     rw [cond_false] at b;obtain⟨H,I,b⟩:=cS b;obtain⟨J,_,b⟩:=zb b;have put:∀(g:Z4) (y:af),eT y->((bp 16 acc.aF (⟨false,[a.ai]⟩:Sl Bs)).bind fun K=>(bp 80 acc.av (⟨false,[y]⟩:Sl af)).bind fun q=>some (g,(af.mk acc.ak acc.bl acc.aV q.nl q.l K)))=some (j,m)->j=g/\Acc m:=by
      intro g y L h;obtain⟨k,M,h⟩:=cS h;obtain⟨u,N,h⟩:=cS h;cases h;have s:k.l=acc.aF.l++[a.ai]:=DW M;have B:u.l=acc.av.l++[y]:=yF N;refine⟨rfl,f.1, ?_,fun x hx=>?_,fun x hx=>?_⟩
      ·show k.l.length=u.l.length;rw [s,B,List.length_append,List.length_append,f.2.1]; rfl
      ·have hx:x∈k.l:=hx;rw [s] at hx;rcases List.mem_append.1 hx with hx|hx
       ·exact f.2.2.1 x hx
       ·rw [List.mem_singleton.1 hx]; exact hn
      ·have hx:x∈u.l:=hx;rw [B] at hx;rcases List.mem_append.1 hx with hx|hx
       ·exact f.2.2.2 x hx
       ·rw [List.mem_singleton.1 hx]; exact L
     cases c1:(H.2&&(!J)) with
     | true =>
      rw [c1,cond_true] at b;obtain⟨P,_,b⟩:=cS b;obtain⟨⟨y,g⟩,o,b⟩:=cS b;obtain⟨g1,g2⟩:=hr _ _ _ _ _ _ hw (VK hv I) o;obtain⟨rfl,g3⟩:=put _ _ g1 b;exact⟨g2,g3⟩
     | false =>
      rw [c1,cond_false] at b;cases c2:a.dO with
      | true =>
       rw [c2,cond_true] at b;obtain⟨Q,_,b⟩:=cS b;obtain⟨⟨y,g⟩,o,b⟩:=cS b;obtain⟨g1,g2⟩:=C _ _ _ _ _ _ hw (F c2) o;obtain⟨rfl,g3⟩:=put _ _ g1 b;exact⟨g2,g3⟩
      | false =>
       rw [c2,cond_false] at b;cases c3:fw a.aO with
       | true =>
        rw [c3,cond_true] at b;obtain⟨rfl,g3⟩:=put _ _ nA b;exact⟨l8 _ _,g3⟩
       | false=>rw [c3,cond_false] at b; cases b; exact⟨er.rfl' _,f⟩
   obtain⟨c2,O⟩:=E (i+1) j m z (hw.of key.1) (fun x hx=>hl x (by simp [hx])) key.2 h;exact⟨c2,key.1.trans O⟩
theorem VQ {d:ar}(z:u6 d) (n:Nat):tc d (fM n)/\tc d (lS n)/\(∀w (t:az) v l x w',o3 d w->Ef t->lf v->lT n w t v l=some (x,w')->eT x/\er w w')/\tc d (iF n):=by
 induction n with
 | zero=>exact⟨fun w t v l x w' _ _ h=>(by cases h),fun w t v l x w' _ _ h=>(by cases h),fun w t v l x w' _ _ _ h=>(by cases h),fun w t v l x w' _ _ h=>(by cases h)⟩
 | succ n B =>
  obtain⟨i1,i2,i3,i4⟩:=B;refine⟨?_, ?_, ?_, ?_⟩
  ·intro w t v l x w' hw hv h;rw [fM] at h;simp only [Ab.on] at h;cases p:jo w.Fd t.ai with
   | false=>rw [p,Bool.not_false,cond_true] at h; cases h; exact⟨nA,l8 _ _⟩
   | true =>
    rw [p,Bool.not_true,cond_false] at h;have body:∀v:af,lf v->((kV w l).bind fun b=>bif (!decide (b.dz=(0:Int))) then(some ((af.mk (0:Int) (0:Int) ([]:Bs) true ([]) (Sl.nil:Sl Bs)),b)) else(bif (decide (v.ak=(0:Int))) then(some ((af.mk (0:Int) (0:Int) ([]:Bs) true ([]) (Sl.nil:Sl Bs)),bif fw t then fE b (23:Int) else b)) else((lM t).bind fun j=>bif j.2 then(((lS n) b j.1 v l).bind fun q=>some (q.1,q.2)) else(bif iQ t.ai then((lR b t.ai v).bind fun r=>some (r.1,r.2)) else(bif (decide ((cV b.Fd t.ai).1.ak=(4:Int))) then(some ((jt b (cV b.Fd t.ai).1 v).1,(jt b (cV b.Fd t.ai).1 v).2)) else(((lT n) b (cV b.Fd t.ai).1 v l).bind fun s=>some (s.1,s.2)))))))=some (x,w')->eT x/\er w w':=by
     intro v hv h;obtain⟨b,C,h⟩:=cS h;have i:=VL C;have o:=hw.of i;cases c1:(!decide (b.dz=(0:Int))) with
     | true=>rw [c1,cond_true] at h; cases h; exact⟨nA,i⟩
     | false =>
      rw [c1,cond_false] at h;cases c2:decide (v.ak=(0:Int)) with
      | true =>
       rw [c2,cond_true] at h; cases h;refine⟨nA,i.trans ?_⟩;cases fw t
       ·exact er.rfl' _
       ·exact l8 _ _
      | false =>
       rw [c2,cond_false] at h;obtain⟨j,_,h⟩:=cS h;cases c3:j.2 with
       | true =>
        rw [c3,cond_true] at h;obtain⟨⟨y,g⟩,f,h⟩:=cS h;cases h;obtain⟨g1,g2⟩:=i2 _ _ _ _ _ _ o hv f;exact⟨g1,i.trans g2⟩
       | false =>
        rw [c3,cond_false] at h;cases u:iQ t.ai with
        | true =>
         rw [u,cond_true] at h;obtain⟨⟨y,g⟩,f,h⟩:=cS h;cases h;obtain⟨g1,g2⟩:=VM hv f;exact⟨g1,i.trans g2⟩
        | false =>
         rw [u,cond_false] at h;cases c5:decide ((cV b.Fd t.ai).1.ak=(4:Int)) with
         | true =>
          rw [c5,cond_true] at h; cases h;obtain⟨g1,g2⟩:=VN b (cV b.Fd t.ai).1 v;exact⟨g1,i.trans g2⟩
         | false =>
          rw [c5,cond_false] at h;obtain⟨⟨y,g⟩,f,h⟩:=cS h;cases h;obtain⟨g1,g2⟩:=i3 _ _ _ _ _ _ o (by rw [o.1]; exact z.dm _) hv f;exact⟨g1,i.trans g2⟩
    cases k:(w.fC&&(decide (v.ak=(7:Int)))) with
    | false=>rw [k,cond_false] at h; exact body v hv h
    | true =>
     rw [k,cond_true] at h;simp at k;have E:jV w.en v.aV=some (s_,false):=by rw [hw.2 k.1]; rfl
     rw [E,oB] at h;exact body s_ yD h
  ·intro w t v l x w' hw hv h;rw [lS] at h;simp only [Ab.on] at h;obtain⟨⟨g,y⟩,f,h⟩:=cS h;cases h;refine VO i1 _ w _ (g,y) hw (fun y m=>?_) ⟨rfl,rfl,fun x hx=>(by cases hx)⟩ f;cases hk:decide (v.ak=(5:Int)) with
   | true=>rw [hk,cond_true] at m; exact((qB v).1 hv).2 y m
   | false=>rw [hk,cond_false] at m; rw [List.mem_singleton.1 m]; exact hv
  ·intro w t v l x w' hw ht hv h;rw [lT] at h;simp only [Ab.on] at h;cases hk:(!decide (v.ak=(6:Int))) with
   | true=>rw [hk,cond_true] at h; cases h; exact⟨nA,l8 _ _⟩
   | false =>
    rw [hk,cond_false] at h;obtain⟨⟨g,y⟩,f,h⟩:=cS h;cases h;have s0:=Eg t v.aF.l w;obtain⟨g1,g2⟩:=VP hv i1 i4 _ _ _ _ (g,y) (hw.of s0) ht ⟨rfl,rfl,fun x hx=>(by cases hx),fun x hx=>(by cases hx)⟩ f;exact⟨g1,s0.trans g2⟩
  ·intro w t v l x w' hw hv h;rw [iF] at h;obtain⟨⟨y,g⟩,f,h⟩:=cS h;cases h;obtain⟨g1,g2⟩:=i1 ⟨w.Fd,s_,true,w.eW,w.dz⟩ t v l y g ⟨hw.1,fun _=>rfl⟩ hv f;exact⟨g1,g2.1,rfl,rfl⟩
theorem VR {d:ar}(f:u6 d){t:aB}{v x:af}{e:Int}(hv:lf v) (h:ni d t v=some (x,e)):eT x:=by
 unfold ni kW ud at h;obtain⟨⟨a,b,c⟩,h1,h⟩:=cS h;cases h;obtain⟨⟨y,w⟩,i,h1⟩:=cS h1;obtain⟨g,_⟩:=(VQ f F0).1 _ _ _ _ _ _ (⟨rfl,fun e=>by cases e⟩:o3 d _) hv i;cases hc:(!decide (w.dz=(0:Int))) with
 | true=>rw [hc,cond_true] at h1; cases h1; exact nA
 | false=>rw [hc,cond_false] at h1; cases h1; exact g
theorem VS {v:af}{b:Bool}(h:kK v b=some true) (hk:v.ak=1\/v.ak=2\/v.ak=3):v.av.l=[]/\v.aF.l=[]:=by
  unfold kK at h;rcases hk with k|k|k<;>rw [k] at h
  · simp at h; exact⟨h.1.2,h.2⟩
  · simp at h; exact⟨h.1.2,h.2⟩
  · simp at h; exact⟨h.1.2,h.2⟩
theorem LC (n:Nat):∀(v:af) (b:Bool),gJ n v b=some true->lf v:=by
  induction n with
  | zero=>intro v b h; cases h
  | succ n f =>
    intro v b h;obtain⟨h1,_,g⟩:=La h;rw [qB];exact⟨VS h1,fun x hx=>f x b (g x hx)⟩
theorem VT {v:af}(h:iB v=some true):lf v:=LC _ _ _ (Uu h)
def Eh (x:Z8):Prop:=bQ x.ai=true/\(x.dO=true->lf x.eE)
theorem VU (a:Z8) (r:List Z8) (h:ii (a::r)=some (Sum.inl ())):bQ a.ai=true/\ii r=some (Sum.inl ()):=by
  rw [ii] at h;simp only [Ab.on] at h;cases e:bQ a.ai with
  | false =>
    rw [e] at h;simp [aQ] at h
  | true =>
    refine⟨rfl, ?_⟩;rcases dS h with ⟨_,b,_,h⟩|⟨_,h⟩<;>rcases dS h with ⟨_,f,_,h⟩|⟨_,h⟩<;>rcases eB h with ⟨_,h⟩|⟨_,h⟩;all_goals first
      | (cases h; done)
      | (rcases dS h with ⟨_,g,_,h⟩|⟨_,h⟩<;>rcases dS h with ⟨_,i,_,h⟩|⟨_,h⟩<;>rcases eB h with ⟨_,h⟩|⟨_,h⟩<;>first|(cases h; done)|exact h)
theorem LD:∀l:List Z8,ii l=some (Sum.inl ())->∀x∈l,bQ x.ai=true
  | [],_,x,hx=>by cases hx
  | a::r,h,x,hx=>by
    obtain⟨h1,b⟩:=VU a r h;rcases List.mem_cons.1 hx with rfl|hx
    · exact h1
    · exact LD r b x hx
theorem LF {s:Sl Z8}(h:gx s=some true):∀x∈s.l,Eh x:=by
  have h0:=Ke h;unfold gx at h;rcases eB h with ⟨_,h⟩|⟨_,h⟩
  · cases h
  · obtain⟨z,g,h⟩:=cS h
    cases z with
    | inl u=>exact fun x hx=>⟨LD _ g x hx,fun e=>VT (h0 x hx e)⟩
    | inr e =>
      rcases Kc _ _ g with ⟨h1,_⟩|h1
      · cases h1
      · rw [h1] at h; cases h
def td (f:Z6):Prop:=bQ f.ai=true/\∀x∈f.aG.l,Eh x
theorem VV (a:Z6) (r:List Z6) (h:gK (a::r)=some (Sum.inl ())):td a/\gK r=some (Sum.inl ()):=by
  rw [gK] at h;simp only [Ab.on] at h;cases e:bQ a.ai with
  | false=>rw [e] at h; simp [aQ] at h
  | true =>
    rw [e] at h;simp only [Bool.not_true,Bool.not_false,cond_true,Bool.false_or] at h;rcases dS h with ⟨_,f,b,h⟩|⟨b,_⟩
    · cases f with
      | false=>simp [aQ] at h
      | true =>
        refine⟨⟨e,LF b⟩, ?_⟩;simp only [Bool.not_true,Bool.not_false,cond_true,Bool.false_or] at h;rcases dS h with ⟨_,g,_,h⟩|⟨_,h⟩<;>rcases dS h with ⟨_,i,_,h⟩|⟨_,h⟩<;>rcases eB h with ⟨_,h⟩|⟨_,h⟩<;>first|(cases h; done)|exact h
    · cases b
theorem LG:∀l:List Z6,gK l=some (Sum.inl ())->∀x∈l,td x
  | [],_,x,hx=>by cases hx
  | a::r,h,x,hx=>by
    obtain⟨h1,b⟩:=VV a r h;rcases List.mem_cons.1 hx with rfl|hx
    · exact h1
    · exact LG r b x hx
theorem VX (l:List Z6) (z:Unit ⊕ Bool) (h:gK l=some z):z=Sum.inl ()\/z=Sum.inr false:=by
  induction l with
  | nil=>rw [gK] at h; cases h; exact .inl rfl
  | cons a r b =>
    rw [gK] at h;simp only [Ab.on] at h;rcases dS h with ⟨_,f,_,h⟩|⟨_,h⟩<;>rcases dS h with ⟨_,g,_,h⟩|⟨_,h⟩<;>rcases dS h with ⟨_,i,_,h⟩|⟨_,h⟩<;>rcases eB h with ⟨_,h⟩|⟨_,h⟩<;>first|(cases h; exact .inr rfl)|exact b h
theorem LH {s:Sl Z6}(h:iP s=some true):∀x∈s.l,td x:=by
  unfold iP at h;rcases eB h with ⟨_,h⟩|⟨_,h⟩
  · cases h
  · obtain⟨z,g,h⟩:=cS h
    rcases VX _ _ g with rfl|rfl
    · exact LG _ g
    · cases h
theorem LI {t:az}(h:gQ t=some true):(∀f∈t.br.l,td f)/\∀x∈t.bP.l,Eh x:=by
  have b:∀{α:Type}{P:α->Prop}{l:List α},l=[]->∀x∈l,P x:=fun e x hx=>by rw [e] at hx; cases hx
  unfold gQ at h;simp only [Ab.on] at h;rcases dS h with ⟨_,j,_,h⟩|⟨_,h⟩<;>rcases eB h with ⟨_,h⟩|⟨_,h⟩;all_goals first
    | (cases h; done)
    | (cases e:kO t.cw.l with
       | inr y=>rw [e] at h; have:=DB _ _ e; subst this; cases h
       | inl _ =>
         rw [e] at h;simp only at h;rcases eB h with ⟨i,h⟩|⟨_,h⟩
         · obtain⟨k,g,h⟩:=cS h
           simp at h;rw [h.1.1] at g;exact⟨LH g,b h.2⟩
         · rcases eB h with ⟨i,h⟩|⟨_,h⟩
           · rcases dS h with ⟨_,x,g,h⟩|⟨_,h⟩
             · simp at h; rw [h.1.1.2] at g; exact⟨LH g,b h.2⟩
             · simp at h
           · rcases eB h with ⟨_,h⟩|⟨_,h⟩
             · rcases dS h with ⟨_,x,_,h⟩|⟨_,h⟩
               · simp at h; exact⟨b h.1.1.2,b h.2⟩
               · simp at h
             · rcases eB h with ⟨_,h⟩|⟨_,h⟩
               · rcases dS h with ⟨_,x,_,h⟩|⟨_,h⟩
                 · simp at h; exact⟨b h.1.1.2,b h.2⟩
                 · simp at h
               · rcases eB h with ⟨i,h⟩|⟨_,h⟩
                 · rcases dS h with ⟨_,x,ex,h⟩|⟨_,h⟩
                   · simp at h; rw [h.2] at ex; exact⟨b h.1.1.1.2,LF ex⟩
                   · simp at h
                 · cases h)
structure qC (d:ar):Prop where
  i:u6 d
  f:∀t∈d.aD.l,∀f∈t.br.l,td f
  n:∀t∈d.aD.l,bQ t.ai=true
theorem VY {d:ar}(h:jN d=some true):qC d:=⟨fun t ht=>(LI (uN h t ht)).2,fun t ht=>(LI (uN h t ht)).1,fun t ht=>UW (uN h t ht)⟩
theorem VZ (n:Nat):∀x v:af,iH n x v->gJ n v false=some true->eT x->Pl n v:=by
  induction n with
  | zero=>intro x v h; exact h.elim
  | succ n o =>
    intro x v ⟨p,u,w,z,g⟩ hv hx;obtain⟨g1,_,g3⟩:=La hv;have hn:=Vg g1;obtain⟨c1,c2,c3⟩:=(u4 x).1 hx;refine⟨hn,fun k hk=>?_,fun y q=>?_⟩
    · have r:v.ak=6/\v.aF.l.length=v.av.l.length:=by
        have no:v.aF.l=[]->v.ak=6/\v.aF.l.length=v.av.l.length:=fun e=>by rw [e] at hk; cases hk
        rcases hn with ⟨_,h⟩|⟨_,h⟩|⟨_,h⟩|⟨_,h⟩|⟨_,h⟩|⟨_,h⟩|⟨a,_,_,h⟩
        · exact no h.2.2.2
        · exact no h.2.2.2
        · exact no h.2.2
        · exact no h.2.2
        · exact no h.2.2.1
        · exact no h.2.2
        · exact⟨a,h⟩
      obtain⟨j,f,rfl⟩:=List.getElem_of_mem hk;have B:=c1 (p.trans r.1);obtain⟨a1,_⟩:=g j (by omega) (by omega);have i:j<x.aF.l.length:=by omega
      rw [List.getD_eq_getElem?_getD,List.getD_eq_getElem?_getD,List.getElem?_eq_getElem f,List.getElem?_eq_getElem i] at a1;have a1:x.aF.l[j]=v.aF.l[j]:=a1;rw [<- a1]; exact c2 _ (List.getElem_mem i)
    · obtain⟨j,f,rfl⟩:=List.getElem_of_mem q
      obtain⟨_,a,b,s,m,t⟩:=g j (by omega) (by omega);rw [List.getElem?_eq_getElem f] at m;cases m;exact o a _ t (g3 _ (List.getElem_mem f)) (c3 a (List.mem_of_getElem? s))
def qD (a:ax):Prop:=bQ a.ai=true/\Pl F0 a.cB
theorem Ei {d:ar}(f:d.sz<=1048576) (hw:d.wf) (g:qC d){a2:Sl ax}(j:∀x∈a2.l,x.wf/\x.sz<=1048576) (q:a2.l.length<=1048576):∀(l:List Z8) (k:Nat),(∀x∈l,x.sz<=1048576/\bQ x.ai=true)->k<=a2.l.length ->
  ∃o,lc d a2 l (k:Int)=some o/\((∃b,o=Sum.inr b/\b=false)\/∃m:Nat,o=Sum.inl (m:Int)/\k<=m/\m<=a2.l.length/\∀i (h:i<a2.l.length),k<=i->i<m->qD a2.l[i])
 | [],k,_,hk=>⟨_,by rw [lc],.inr ⟨k,rfl,Nat.le_refl _,hk,fun i _ h1 s=>by omega⟩⟩
 | x::r,k,hx,hk=>by
  obtain⟨xs,C⟩:=hx x (by simp);have M:=x.bI;have hr:∀y∈r,y.sz<=1048576/\bQ y.ai=true:=fun y E=>hx y (by simp [E]);have F:=Ei f hw g j q r k hr hk;have no:∃o,(some (Sum.inr false):Option (Int ⊕ Bool))=some o/\((∃b,o=Sum.inr b/\b=false)\/∃m:Nat,o=Sum.inl (m:Int)/\k<=m/\m<=a2.l.length/\∀i (h:i<a2.l.length),k<=i->i<m->qD a2.l[i]):=⟨_,rfl,.inl ⟨false,rfl,rfl⟩⟩;have other:∃o,(bif (x.dO||(bif !x.dO then fw (bif !x.dO then x else Z8.zero).aO else false)) then(some (Sum.inr false)) else lc d a2 r (k:Int))=some o/\((∃b,o=Sum.inr b/\b=false)\/∃m:Nat,o=Sum.inl (m:Int)/\k<=m/\m<=a2.l.length/\∀i (h:i<a2.l.length),k<=i->i<m->qD a2.l[i]):=by
   cases (x.dO||(bif !x.dO then fw (bif !x.dO then x else Z8.zero).aO else false))
   ·exact F
   ·exact no
  rw [lc];simp only [Ab.on];by_cases u:k<a2.l.length
  ·have G:a2.l[k]?=some a2.l[k]:=List.getElem?_eq_getElem u;obtain⟨aw,N⟩:=j _ (List.getElem_mem u);have O:=(a2.l[k]).bI;obtain⟨y,e,i2⟩:=UR (t:=x.aO) f hw (by have:=aB.qw x.aO; omega) (v:=(a2.l[k]).cB) (by omega) (ax.zL aw);obtain⟨b,z⟩:=Uy (a2.l[k]).cB (by omega);obtain⟨c,H,I⟩:=KJ (v:=y) (w:=(a2.l[k]).cB) (by omega);simp only [dT (by omega:((k:Nat):Int)<((a2.l.length:Nat):Int)),fI,G,aQ,if_true,oB,Bool.true_and,cond_true]
   cases hn:(a2.l[k]).ai==x.ai
   ·simp only [cond_false];exact other
   ·have J:bY (k:Int) 1=some ((k+1:Nat):Int):=by rw [fU (by omega)]; rfl
    obtain⟨o,K,p⟩:=Ei f hw g j q r (k+1) hr (by omega);simp only [cond_true,i2,oB,J];by_cases he:e=0
    ·simp only [he,decide_true,Bool.not_true,Bool.not_false,if_true,z,oB,Bool.false_or];cases b
     ·exact no
     ·simp only [Bool.not_true,Bool.not_false,if_true,oB,H,Bool.false_or];cases c
      ·exact no
      ·refine⟨o,K, ?_⟩;rcases p with p|⟨m,rfl,m1,m2,m3⟩
       ·exact .inl p
       ·refine .inr ⟨m,rfl,by omega,m2,fun i hi h1 s=>?_⟩;by_cases L:i=k
        ·subst L;rw [beq_iff_eq] at hn;have B:=Uv z;exact⟨by rw [hn]; exact C,VZ F0 y _ (I.1 rfl) B (VR g.i (LC _ _ _ B) i2)⟩
        ·exact m3 i hi (by omega) s
    ·simp only [dF he,Bool.not_false,Bool.not_true,Bool.false_eq_true,if_false,Bool.true_or,cond_true];exact no
  ·simp only [dF (by omega:¬((k:Nat):Int)<((a2.l.length:Nat):Int)),aQ,Bool.false_eq_true,if_false,Bool.false_and,cond_false];exact other
theorem V0 {d:ar}(f:d.sz<=1048576) (hw:d.wf) (g:qC d){a1:Sl Z8}(h1:∀x∈a1.l,x.sz<=1048576/\bQ x.ai=true){a2:Sl ax}(j:∀x∈a2.l,x.wf/\x.sz<=1048576) (k:a2.l.length<=1048576) :
  ∃b,qq d a1 a2=some b/\(b=true->∀a∈a2.l,qD a):=by
 obtain⟨o,e,h⟩:=Ei f hw g j k a1.l 0 h1 (Nat.zero_le _);unfold qq;rw [show (0:Int)=((0:Nat):Int) from rfl,e,oB];rcases h with ⟨b,rfl,rfl⟩|⟨m,rfl,_,m2,m3⟩
 ·exact⟨false,rfl,fun h=>by cases h⟩
 ·refine⟨_,rfl,fun p a q=>?_⟩;have hm:((m:Nat):Int)=((a2.l.length:Nat):Int):=oD p;obtain⟨i,hi,rfl⟩:=List.getElem_of_mem q;exact m3 i hi (Nat.zero_le _) (by omega)
theorem V1 (s:Bs) (l:List Z6):iC s l=(match l.find? (fun t=>t.ai==s) with|some t=>Sum.inr (t,true)|none=>Sum.inl ()):=by
 induction l with
 | nil=>rfl
 | cons a r b =>
  rw [iC,List.find?_cons];simp only [on,b];cases a.ai==s<;>rfl
theorem V2 (t:az) (s:Bs):gb t s=iY t.br.l s:=by
 unfold gb iY on;rw [V1];cases t.br.l.find? (fun t=>t.ai==s)<;>rfl
def u7:Bs:=[95,95,116,121,112,101,110,97,109,101]
def yG (d:ar) (o n:Bs):aB:=if n=u7 then uG else(iY (dm d.aD.l o).1.br.l n).1.aO
def l9 (d:ar):Nat->aj->Prop
 | 0,_=>False
 | n+1,p=>(bQ p.bz=true/\bQ p.bn=true/\bQ p.ai=true/\gX p.aO (yG d p.bz p.ai)=true/\∀a∈p.aG.l,qD a)/\∀x∈p.aK.l,l9 d n x
theorem V3 {d:ar}(m:oP d) (q:qC d){p:aj}(pw:p.wf) (ps:p.sz<=1048576) :
  ∃b,sX d p=some b/\(b=true->bQ p.bn=true/\bQ p.ai=true/\gX p.aO (yG d p.bz p.ai)=true/\∀a∈p.aG.l,qD a):=by
 have G:=p.bI;have H:=Sl.d_ (f:=ax.sz) p.aG ax.pos;have v:=Uj (t:=p.aO) (by have:=aB.qw p.aO; omega);have r:(iY (dm d.aD.l p.bz).1.br.l p.ai).2=true->(iY (dm d.aD.l p.bz).1.br.l p.ai).1∈(dm d.aD.l p.bz).1.br.l/\(iY (dm d.aD.l p.bz).1.br.l p.ai).1.ai=p.ai:=by
  unfold iY;cases hq:(dm d.aD.l p.bz).1.br.l.find? (fun t=>t.ai==p.ai) with
  | none=>intro h; cases h
  | some t=>exact fun _=>⟨List.mem_of_find?_eq_some hq,by have h:=List.find?_some hq; exact beq_iff_eq.1 h⟩
 have u:∀f∈(dm d.aD.l p.bz).1.br.l,(∃t∈d.aD.l,f∈t.br.l)/\td f:=fun f j=>by
  rcases J4 d.aD.l p.bz with g|g
  ·rw [g] at j; cases j
  ·exact⟨⟨_,g,j⟩,q.f _ g f j⟩
 obtain⟨A,a2,a3⟩:∃b,qq d (iY (dm d.aD.l p.bz).1.br.l p.ai).1.aG p.aG=some b/\(b=true->∀a∈p.aG.l,qD a):=by
  have k:∀x∈p.aG.l,x.wf/\x.sz<=1048576:=fun x hx=>⟨(aj.vU pw).2.2 x hx,by have:=Sl.dy (f:=ax.sz) hx; omega⟩;refine V0 m.s m.w q (fun x hx=>?_) k (by omega);cases i:(iY (dm d.aD.l p.bz).1.br.l p.ai).2 with
  | false =>
   have:(iY (dm d.aD.l p.bz).1.br.l p.ai).1=Z6.zero:=by
    unfold iY at i ⊢;cases hq:(dm d.aD.l p.bz).1.br.l.find? (fun t=>t.ai==p.ai) with
    | none=>rfl
    | some t=>rw [hq] at i; cases i
   rw [this] at hx; cases hx
  | true =>
   obtain⟨m1,_⟩:=r i;obtain⟨⟨t,g,e⟩,y⟩:=u _ m1;have i:=d.bI; have I:=Sl.dy (f:=az.sz) g; have h1:=t.bI; have J:=m.s;have K:=(iY (dm d.aD.l p.bz).1.br.l p.ai).1.bI; have L:=Sl.dy (f:=Z6.sz) e; have M:=Sl.dy (f:=Z8.sz) hx;exact⟨by omega,(y.2 x hx).1⟩
 unfold sX;simp only [Ab.on,v,gS,J',Ub,V2,yf,a2];have z:(p.ai==([95,95,116,121,112,101,110,97,109,101]:Bs))=decide (p.ai=u7):=by unfold u7; rw [Bool.eq_iff_iff,beq_iff_eq,decide_eq_true_iff]
 generalize ((decide (p.bW<(-1:Int)))||((decide ((0:Int)<=p.bW))&&(!((!(decide (p.bW<(-1:Int)))&&(decide ((0:Int)<=p.bW)))&&DI (uQ p.aO.aX).l))))=B;have no:∀C:Prop,∃b,some false=some b/\(b=true->C):=fun _=>⟨false,rfl,fun h=>by cases h⟩;cases B with
 | true=>exact no _
 | false =>
  cases N:bQ p.bn with
  | false=>exact no _
  | true =>
   rw [cond_false,z];generalize ((!true)||(((!(!true))&&qf p.bn)&&((!(p.bn==([95,95,116,121,112,101,110,97,109,101]:Bs)))||(!decide (p.ai=u7)))))=c1;cases c1 with
   | true=>exact no _
   | false =>
    rw [cond_false];by_cases ht:p.ai=u7
    ·rw [dT ht,cond_true,oB];refine⟨_,rfl,fun o=>?_⟩;simp only [Bool.and_eq_true,decide_eq_true_eq] at o;have h0:p.aG.l=[]:=List.eq_nil_of_length_eq_zero (by have:=o.1.2; omega);refine⟨rfl,by rw [ht]; decide +kernel,by unfold yG; rw [if_pos ht,DL]; exact o.1.1,fun a k=>by rw [h0] at k; cases k⟩
    ·rw [dF ht,cond_false];cases E:(iY (dm d.aD.l p.bz).1.br.l p.ai).2 with
     | false=>exact no _
     | true =>
      cases F:gX p.aO (iY (dm d.aD.l p.bz).1.br.l p.ai).1.aO with
      | false=>exact no _
      | true =>
       cases A with
       | false=>exact no _
       | true =>
        obtain⟨m1,m2⟩:=r E;refine⟨_,rfl,fun _=>⟨rfl, ?_,by unfold yG; rw [if_neg ht]; exact F,a3 rfl⟩⟩;rw [<- m2]; exact(u _ m1).2.1
theorem LJ (s:Bs):∀(l:List Bs) (i:Nat),(oK s l i=Sum.inl ())\/s∈l
 | [],_=>.inl rfl
 | x::r,i=>by
  rw [oK];simp only [Ab.on];cases h:x==s with
  | true=>rw [beq_iff_eq] at h; exact .inr (by rw [h]; simp)
  | false=>exact(LJ s r (i+1)).imp id fun h=>List.mem_cons_of_mem _ h
theorem V4 {l:Sl Bs}{s:Bs}(h:0<=oL l s):s∈l.l:=by
 rcases LJ s l.l 0 with e|e
 ·unfold oL at h;rw [e] at h;simp [Ab.on] at h
 ·exact e
theorem LK (a:Sl aj) (h:aj):∀(m j:Nat),j+m<=a.l.length->∃b,nj a h m j=some (yp b)
 | 0,j,_=>⟨true,by rw [nj]; rfl⟩
 | m+1,j,g=>by
  have hi:j<a.l.length:=by omega
  rw [nj,List.getElem?_eq_getElem hi];obtain⟨b,f⟩:=LK a h m (j+1) (by omega);simp only [Ab.on,oB,aQ];cases h1:(a.l[j]).bz==h.bz
  ·exact⟨b,f⟩
  ·simp only [if_true,oB,Bool.true_and,cond_true];cases i:(a.l[j]).bn==h.bn
   ·exact⟨b,f⟩
   ·exact⟨false,rfl⟩
theorem LM {d:ar}(j:oP d) (k:qC d){a1:Sl aj}{f:Int}(s:0<=f){y3:Sl Bs}(m:∀z∈y3.l,bQ z=true){k2:ar->Bs->Sl aj->Int->Option Bool}(n:Nat)
  (o:∀p∈a1.l,p.wf/\p.sz<=1048576/\(f<=24->∃b,k2 d p.aO.ai p.aK (f+1)=some b/\(b=true->∀x∈p.aK.l,l9 d n x))) :
  ∀(r:List aj) (i:Nat) (last:Int),0<=last->a1.l.drop i=r->∃b,lY d a1 f y3 k2 r i last=some (yp b)/\(b=true->∀p∈r,l9 d (n+1) p)
 | [],i,last,_,_=>⟨true,rfl,fun _ x hx=>by cases hx⟩
 | p::r,i,last,h0,g=>by
  have bh:i<a1.l.length:=by
   rcases Nat.lt_or_ge i a1.l.length with h|h
   ·exact h
   ·rw [List.drop_of_length_le h] at g; cases g
  rw [List.drop_eq_getElem_cons bh] at g
  injection g with t u
  have v:p∈a1.l:=t▸List.getElem_mem bh;obtain⟨pw,ps,hk⟩:=o p v;obtain⟨A,a2,a3⟩:=V3 j k pw ps;obtain⟨D,d1⟩:=LK a1 p i 0 (by omega);have no:∀w:Prop,∃b,some (Sum.inr false)=some (yp b)/\(b=true->w):=fun _=>⟨false,rfl,fun h=>by cases h⟩;rw [lY];simp only [Ab.on,d1];by_cases q:(24:Int)<f
  ·simp only [dT q,Bool.true_or,Bool.not_true,aQ,Bool.false_eq_true,if_false,cond_true];exact no _
  ·obtain⟨B,y,C⟩:=hk (by omega);have E:bY f 1=some (f+1):=fU (by omega);simp only [dF q,Bool.false_or];by_cases hc:oL y3 p.bz<last
   ·simp only [dT hc,Bool.true_or,Bool.not_true,aQ,Bool.false_eq_true,if_false,cond_true];exact no _
   ·simp only [dF hc,Bool.not_false,cond_true,gS,a2,Bool.true_and,Bool.false_or];cases A
    ·exact no _
    ·simp only [Bool.not_true,Bool.not_false,cond_true,aQ,if_true,E,oB,y];cases B
     ·exact no _
     ·cases D
      ·exact no _
      ·obtain⟨T,t1,t2⟩:=LM j k s m n o r (i+1) (oL y3 p.bz) (by omega) u;refine⟨T, ?_,fun F x hx=>?_⟩
       ·simpa [yp] using t1
       ·rcases List.mem_cons.1 hx with rfl|hx
        ·obtain⟨G,H,I,J⟩:=a3 rfl;exact⟨⟨m _ (V4 (l:=y3) (by omega)),G,H,I,J⟩,C rfl⟩
        ·exact t2 F x hx
theorem LN {d:ar}(i:oP d) (j:qC d):∀(n:Nat) (l:Sl aj) (on:Bs) (g:Int),(∀x∈l.l,x.sz<n/\x.wf/\x.sz<=1048576)->0<=g->∀m,n<m ->
  ∃b,j_ m d on l g=some b/\(b=true->∀p∈l.l,l9 d n p)
 | n,l,on,g,hl,h0,m,hm=>by
  obtain⟨m1,rfl⟩:∃m1,m=m1+1:=⟨m-1,by omega⟩;obtain⟨y,k,_⟩:=Up i.len on;have o:∀z∈y.l,bQ z=true:=fun z q=>by
   obtain⟨t,ht,rfl⟩:=List.mem_map.1 ((UQ k).subset q);exact j.n t ht
  rw [j_,k,oB];cases n with
  | zero =>
   have h0:l.l=[]:=List.eq_nil_iff_forall_not_mem.2 fun x hx=>absurd (hl x hx).1 (by omega);rw [h0,lY];exact⟨true,rfl,fun _ x hx=>by cases hx⟩
  | succ n =>
   obtain⟨b,f1,f2⟩:=LM (a1:=l) i j h0 o (k2:=j_ m1) n (fun p f=>⟨(hl p f).2.1,(hl p f).2.2,fun _=>LN i j n p.aK p.aO.ai (g+1) (fun x hx=>⟨by have:=DZ hx; have:=(hl p f).1; omega,(aj.pS (hl p f).2.1).2.2 x hx,by have:=DZ hx; have:=(hl p f).2.2; omega⟩) (by omega) m1 (by omega)⟩) l.l 0 0 (by omega) rfl;rw [f1];exact⟨b,by cases b<;>rfl,f2⟩
theorem LO {a:Sl aj}(h:Sl.sz aj.sz a<=1048576):∃c:Int,xB a=some c/\uF a=some c/\0<=c:=by
 have hi:Sl.sz aj.sz a=1+(a.l.map aj.sz).sum:=rfl;obtain⟨xs,b,g⟩:=D0 F0 1 a.l (by rw [eD]; omega) (by omega) (by rw [eD]; omega);have hc:uF a=some ((xs.length:Nat):Int):=KL 1048577 a 1 F0 xs (fun x hx=>by have:=Sl.dy (f:=aj.sz) hx; omega) b (by omega) F0 (by rw [eD]; omega);refine⟨_, ?_,hc,by omega⟩;unfold xB sN;rw [b,oB,if_pos (by omega)]
theorem LP {d:ar}(j:oP d) (i:qC d){p:bU}(pw:p.wf) (ps:p.sz<=1048576):∃b,qs d p=some b/\(b=true->(1<=p.ak/\p.ak<=3)/\∀x∈p.aK.l,l9 d 1048577 x):=by
 have u:=p.bI;obtain⟨c,_,c1,_⟩:=LO (a:=p.aK) (by omega);unfold qs;simp only [Ab.on,yf,c1];have no:∀k:Prop,∃b,some false=some b/\(b=true->k):=fun _=>⟨false,rfl,fun h=>by cases h⟩;cases g:(dm d.aD.l (lX p.ak)).2
 ·exact no _
 ·have m:1<=p.ak/\p.ak<=3:=by
   by_cases h1:p.ak=1
   ·omega
   by_cases o:p.ak=2
   ·omega
   by_cases q:p.ak=3
   ·omega
   have hr:lX p.ak=[]:=by unfold lX; rw [dF h1,dF o,dF q]; rfl
   rw [hr] at g;unfold dm at g;cases hq:d.aD.l.find? (fun t=>t.ai==([]:Bs)) with
   | none=>rw [hq] at g; cases g
   | some t =>
    have ht:t.ai=[]:=by have h:=List.find?_some hq; exact beq_iff_eq.1 h
    exact absurd ht (UX (i.n t (List.mem_of_find?_eq_some hq)))
  cases hk:decide ((dm d.aD.l (lX p.ak)).1.ak=(1:Int))
  ·exact no _
  ·simp only [aQ,Bool.and_self,if_true,oB,Bool.true_and];cases decide (c<=2048)
   ·exact no _
   ·obtain⟨b,g1,g2⟩:=LN j i 1048577 p.aK (dm d.aD.l (lX p.ak)).1.ai 1 (fun x hx=>by
     have:=Sl.dy (f:=aj.sz) hx;exact⟨by omega,(bU.pS pw).2.2 x hx,by omega⟩) (by omega) F0 (by rw [eD]; omega)
    have r:Dm d (dm d.aD.l (lX p.ak)).1.ai p.aK 1=some b:=g1;rw [if_pos rfl,r,oB,Bool.true_and];exact⟨b,rfl,fun s=>⟨m,g2 s⟩⟩
theorem V5 (n:Nat):∀v w:af,nw n v w->iH n v w:=by
 induction n with
 | zero=>intro v w h; exact h
 | succ n g =>
  intro v w ⟨h1,i,k,o,f⟩;refine⟨h1,i,k,uW f,fun j _ b=>⟨by rw [o], ?_⟩⟩;have idx:∀(l m:List af),aR (nw n) l m->∀j,j<l.length->∃x y,l[j]?=some x/\m[j]?=some y/\iH n x y:=by
   intro l m h;induction h with
   | nil=>intro j b; exact absurd b (Nat.not_lt_zero _)
   | cons h t p =>
    intro j b;cases j with
    | zero=>exact⟨_,_,rfl,rfl,g _ _ h⟩
    | succ j=>obtain⟨x,y,q,r,s⟩:=p j (by simpa using b); exact⟨x,y,by simpa using q,by simpa using r,s⟩
  exact idx _ _ f j b
theorem LQ (d:ar) (n:Nat):∀p:aj,l9 d n p->ny F0 n p:=by
 induction n with
 | zero=>intro p h; exact h
 | succ n b=>intro p ⟨⟨h1,f,g,_,i⟩,j⟩; exact⟨h1,f,g,i,fun x hx=>b x (j x hx)⟩
theorem V6 {a b c:aB}(h:gX a c=true) (g:gX b c=true):gX a b=true:=by
 unfold gX at h g ⊢;simp only [Bool.and_eq_true,beq_iff_eq,decide_eq_true_eq] at h g ⊢;exact⟨h.1.trans g.1.symm,h.2.trans g.2.symm⟩
theorem Ej {α:Type}{R S:α->α->Prop}:∀{l m:List α},aR R l m->(∀x∈l,∀y∈m,R x y->S x y)->aR S l m
 | _,_,.nil,_=>.nil
 | _,_,.cons h t,f=>.cons (f _ (by simp) _ (by simp) h) (Ej t fun x hx y b=>f x (by simp [hx]) y (by simp [b]))
theorem V7 (d:ar) (n:Nat):∀p q:aj,l9 d n p->l9 d n q->PE F0 n p q->SP n p q:=by
 induction n with
 | zero=>intro p q h; exact h.elim
 | succ n i =>
  intro p q ⟨⟨_,_,_,b,_⟩,j⟩ ⟨⟨_,_,_,hq,_⟩,g6⟩ ⟨⟨k,f,g,l,m⟩,o,r⟩;rw [f,g] at b;exact⟨⟨k,f,g,l,m,V6 b hq⟩,o.imp fun _ _ h=>⟨h.1,V5 _ _ _ h.2⟩,Ej r fun x hx y s h=>i x y (j x hx) (g6 y s) h⟩
theorem V8 {j k:Int}{x y:Bs}(f:1<=j/\j<=3) (hk:1<=k/\k<=3) (h:s7 j++[32]++x=s7 k++[32]++y):j=k/\x=y:=by
 have h1:j=1\/j=2\/j=3:=by omega
 have b:k=1\/k=2\/k=3:=by omega
 rcases h1 with rfl|rfl|rfl<;>rcases b with rfl|rfl|rfl<;>simp [s7] at h
 ·exact⟨rfl,h⟩
 ·exact⟨rfl,h⟩
 ·exact⟨rfl,h⟩
theorem V9 {d:ar}{a b:bU}(f:(1<=a.ak/\a.ak<=3)/\∀x∈a.aK.l,l9 d 1048577 x) (g:(1<=b.ak/\b.ak<=3)/\∀x∈b.aK.l,l9 d 1048577 x) (h:jA a=jA b):a.ak=b.ak/\aR (SP 1048577) a.aK.l b.aK.l:=by
 unfold jA at h;obtain⟨j,k⟩:=V8 f.1 g.1 h;have m:=VG (fun p i=>LQ d _ p (f.2 p i)) (fun p i=>LQ d _ p (g.2 p i)) k;exact⟨j,Ej m fun x hx y o h=>V7 d _ x y (f.2 x hx) (g.2 y o) h⟩
theorem V_:uE=some true:=by kernel_rfl
theorem Wa {d:ar}(o:d.wf) (ds:d.sz<=1048576){a:bU}(aw:a.wf) (k:a.sz<=1048576){b:bU}(l:b.wf) (bs:b.sz<=1048576):uK d a b=some true:=by
 have E:a.sz=1+(Sl.sz aj.sz a.aK+0):=rfl;have F:b.sz=1+(Sl.sz aj.sz b.aK+0):=rfl;obtain⟨v,p,q⟩:=UY o ds;obtain⟨s,t⟩:=KH (a:=a.aK) (by omega);obtain⟨u,w⟩:=KH (a:=b.aK) (by omega);unfold uK;rw [p,oB,t,gS,w,gS,V_];cases v
 ·rfl
 cases s
 case true=>rfl
 cases u
 case true=>rfl
 obtain⟨z,x,y,B⟩:=VA (a:=a.aK) (b:=b.aK) (by omega);obtain⟨t1,t2⟩:=Lo aw k;obtain⟨t3,t4⟩:=Lo l bs;obtain⟨c,c1,c2,_⟩:=LO (a:=a.aK) (by omega);have f:=q rfl;have m:=VY f.r;obtain⟨g,f1,g1⟩:=LP f m aw k;obtain⟨i,f2,g2⟩:=LP f m l bs;show ((xf a.aK b.aK).bind fun G=>_)=_;rw [y,oB,t1,oB,t3,oB,t2,oB]
 simp only [beq_self_eq_true,Bool.not_true,Bool.not_false,aQ,if_true,t4,oB,Bool.or_false,x,bne_self_eq_false,c1,c2,decide_true,cond_false,f1,f2];have j:(((((jA a==jA b))&&g)&&i)&&((!decide (a.ak=b.ak))||(!z)))=false:=by
  cases h1:(jA a==jA b) with
  | false=>rfl
  | true =>
   cases g with
   | false=>rfl
   | true =>
    cases i with
    | false=>rfl
    | true =>
     obtain⟨C,k2⟩:=V9 (g1 rfl) (g2 rfl) (beq_iff_eq.1 h1);rw [dT C,B.2 k2]; rfl
 cases h1:(jA a==jA b) with
 | false=>simp
 | true =>
  rw [h1] at j;cases g with
  | false=>simp
  | true =>
   cases i with
   | false=>simp
   | true =>
    simp only [Bool.true_and] at j;simp [j]
end Go.Proofs
namespace Go.Proofs.YtbghdiaepdaaeaaGreatDoor
open Go Go.Ab Go.RowKit Go.ChangeShapes Go.WideShapes Go.ChangeAt
variable {an:bf} [gM an]
theorem LR {H:Type}(l:List (DataW H)):Rows.uptoBulkAll l=(l.map Rows.uptoBulk).sum:=by
 induction l with
 | nil=>rfl
 | cons x r b=>simp only [Rows.uptoBulkAll,List.map_cons,List.sum_cons,b]
theorem Ek {H:Type}:tL (H:=H) Rows.uptoBulk:=by
 refine⟨fun d=>?_,fun b=>by simp [Rows.uptoBulk],fun e s=>by simp only [Rows.uptoBulk,LR]; omega,fun l=>by simp only [Rows.uptoBulk,LR]; omega⟩;cases d with
 | lit l=>cases l<;>simp [Rows.uptoBulk]
 | nil=>simp [Rows.uptoBulk]
 | ptr d=>simp [Rows.uptoBulk]
 | slice f spare=>simp [Rows.uptoBulk]
 | agg parts=>simp [Rows.uptoBulk]
 | iface t d=>simp [Rows.uptoBulk]
 | map entries=>simp [Rows.uptoBulk]
 | held h=>simp [Rows.uptoBulk]
theorem own:ownKnob Tryz.prog.godebug=none:=by kernel_rfl
theorem laid:laidOutB Tryz.prog=true:=by kernel_rfl
theorem Wb {H:Type}{l:List (DataW H)}(hk:Rows.uptoSmall H l=true):Rows.uptoBulkAll l<=1048576:=oD hk
theorem table {W:World}(h:laidMet Tryz.prog Rows.normalTextsUptoRow.laid W):∃u b,W.heap[4]?=some (.cells (Lib.pow10Tab.map fun z=>Value.int .u64 z).toArray u b) :=
 Oo (P:=Tryz.prog) (name := "internal/strconv.uint64pow10") (g:=4) (t:=286) (e:=257) (n:=20) (by kernel_rfl) (by kernel_rfl) (by kernel_rfl) (by kernel_rfl) (by kernel_rfl) (by kernel_rfl) h
  (by rw [show (Lib.tabData .u64 Lib.pow10Tab:DataW Unit)=Rows.laid_internal_strconv_uint64pow10 from(by kernel_rfl)]; exact .tail _ (.tail _ (.head _)))
theorem Wc (u:TypeId) (b:Nat×Nat):ia Tryz.prog (.fix 4 (.cells (Lib.pow10Tab.map fun z=>Value.int .u64 z).toArray u b)):=.of (by kernel_rfl)
theorem Wd (a:ar) (g:a.sz<=1048576) (i:a.wf) (b:bU) (j:b.sz<=1048576) (k:b.wf) (c:bU) (hc:c.sz<=1048576) (l:c.wf) (u:TypeId) (f:Nat×Nat):AC Tryz.prog 4 [.agg a.c,.agg b.c,.agg c.c] (eP 4 (.cells (Lib.pow10Tab.map fun z=>Value.int .u64 z).toArray u f)) fun r h'=>r=.a (.d (.bool true))/\h'=eP 4 (.cells (Lib.pow10Tab.map fun z=>Value.int .u64 z).toArray u f) :=
 S_ (by rw [S9]; exact Wa i g k j l hc) _ (gT:=0) rfl (Wc u f)
end Go.Proofs.YtbghdiaepdaaeaaGreatDoor
