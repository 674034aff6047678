import Derived.Test.YtdlobimnfmjonaaGreatDoorV7
set_option maxRecDepth 100000
set_option maxHeartbeats 2000000
set_option linter.unusedVariables false
set_option linter.unusedSimpArgs false
namespace Go.Proofs
open Go Go.Ab
open aK an ag dJ fN
attribute [local irreducible] aK aN ag an
variable {au:bS}
-- @uses supergraph/contract.Tags supergraph/contract.meets (supergraph/contract.filter).first supergraph/validate.Schema supergraph/contract.soft supergraph/schema.Scalar slices.ContainsFunc[[]supergraph/api.Input,supergraph/api.Input] slices.DeleteFunc[[]supergraph/api.Input,supergraph/api.Input] slices.DeleteFunc[[]supergraph/api.Member,supergraph/api.Member] slices.DeleteFunc[[]string,string]
structure cT where
 ai:Int
 aa:Bs
 aM:D
 bf:D
 aq:D
 ax:D
 aF:D
noncomputable def cT.c (x:cT):List D:=[.int .i64 x.ai,.str x.aa,x.aM,x.bf,x.aq,x.ax,x.aF]
def cT.zero:cT:=⟨(0:Int),([]:Bs),(.slice 1 none true []),(.slice 2 none true []),(.slice 5 none true []),(.slice 2 none true []),(.slice 10 none true [])⟩
structure jd where
 aj:(Sl cT)
noncomputable def jd.c (x:jd):List D:=[Sl.d 7 cT.c none x.aj]
structure cQ where
 Fd:jd
 gK:Bool
noncomputable def cQ.c (x:cQ):List D:=jd.c x.Fd++v8 x.gK
def rL (f:Bs):List cT->Unit ⊕ ((cT×Bool))
 | []=>Sum.inl ()
 | g::j=>on (g) fun b=>bif ((b.aa==f)) then(Sum.inr (b,true)) else(rL f (j) )
def CW (a0:jd) (g:Bs):(cT×Bool):=on (rL g a0.aj.l ) fun b=>match b with|Sum.inl _=>(on (()) fun _=>((cT.zero),false))|Sum.inr f=>(f)
theorem Xn {a0 f r}(b:some (CW a0 f)=some r) (H:af) :At 32 [.agg (jd.c a0),.d (.str f)] H (RT (.cL [.agg (cT.c r.1),.d (.bool r.2)]) H):=by
 unfold CW at b;refine AC.oW 22 [.cell 4 40,.tmp 5] Tryz.call32 Tryz.func32 ?_;refine Y5 ?_;refine dS (tl [4]) (fun(z:cT)=>[]) (fun z=>[cT.c z]) (fun z=>H) (fun z=>some (((cT.zero),false))=some r) ?_ ?_
 ·intro C q;refine Y3 ?_;refine aU cT.c a0.aj fun E=>Y3 ?_;obtain⟨g,j,b⟩:=dU b;refine gz (tl [1,4,9,10]) (fun(z:Nat×cT)=>[(11,vi z.1)]) (fun z=>[cT.c z.2]) (fun z=>H) (fun z=>a0.aj.l.length-z.1) (fun z=>g (rL f (a0.aj.l.drop z.1) )=some r) (0,cT.zero) b wA ?_;rintro ⟨k,m⟩ b F s;refine Y3 ?_;refine ar fun G t=>?_
  refine ag.bJ (fun l=>g (rL f l )=some r) b rfl (fun I p u b=>?_) (fun u b=>?_)
  ·rw [rL] at b;refine sk t (ar fun J v=>Y2 ?_);obtain⟨K,w,b⟩:=vP p b;refine S (ix cT.c k w) (Y4 ?_);refine bC 7 _ rfl (kl [1,4,9,10,11]) ?_;refine Y6 ?_;refine cP b (fun y b=>?_) (fun y b=>?_)
   ·refine Y5 ?_;exact rs (ku j b:)
   refine sk v (Y4 ?_);exact s _ ((k+1),m) wA b (dl p)
  rw [rL] at b;have b:=ku j b;refine ag.exit ?_;obtain⟨L,B,b⟩:=dU b;exact q _ m wA (ku B b:)
 rintro M b;refine Y5 ?_;exact rt b
def fW (a0:cQ) (b:Bs):Bool:=on (CW a0.Fd b) fun x3=>on (bif (!x3.2) then cV b else false) fun x5=>((!x3.2)&&(!x5))
theorem Ar {a0 a1 c0 r}(b:some (fW a0 a1)=some r) (H:af) (b7:H c0=some (.cells (cQ.c a0))):At 74 [.d (.ptr c0 0),.d (.str a1)] H (RT (.a (.d (.bool r))) H):=by
 unfold fW at b;refine AC.oW 23 [.tmp 4] Tryz.call74 Tryz.func74 ?_;refine Y9 ?_;obtain⟨x3,f,b⟩:=ff b;refine Sc rfl rfl (Xn f) (Y7 ?_);refine bC 5 _ rfl (kl [1,6]) ?_;refine Y5 ?_;obtain⟨x5,g,b⟩:=iX (fun _=>rfl) b;refine dP 19 rfl rfl rfl rfl rfl (fun hC=>vE (g hC)) ?_;refine Gk 20 ?_;refine Y3 ?_;exact rt b
def yc (a0:Z7) (f:cQ):Bool:=on (fW f a0.av.aa) fun x3=>on (bif x3 then qa a0 else false) fun b=>(x3&&(!b))
theorem Xo {a0 a1 c1 r}(b:some (yc a0 a1)=some r) (H:af) (j:H c1=some (.cells (cQ.c a1))):At 116 [.agg (Z7.c a0),.d (.view [.ptr c1 0])] H (RT (.a (.d (.bool r))) H):=by
 unfold yc at b;refine AC.oW 14 [.tmp 3] Tryz.call116 Tryz.func116 ?_;refine Y9 ?_;obtain⟨x3,f,b⟩:=ff b;refine s0 (eE rfl rfl (Ar f _ az)) rfl ?_;refine Y2 ?_;obtain⟨k,g,b⟩:=iX (fun _=>rfl) b;refine dP 10 rfl rfl rfl rfl rfl (fun hC=>Nl (g hC)) ?_;refine Gk 11 ?_;refine Y3 ?_;exact rt b
def rO (a0:Z7) (f:cQ):Bool:=on (fW f a0.av.aa) fun x3=>on (bif x3 then qa a0 else false) fun b=>(x3&&b)
theorem Xp {a0 a1 c1 r}(b:some (rO a0 a1)=some r) (H:af) (j:H c1=some (.cells (cQ.c a1))):At 119 [.agg (Z7.c a0),.d (.view [.ptr c1 0])] H (RT (.a (.d (.bool r))) H):=by
 unfold rO at b;refine AC.oW 13 [.tmp 3] Tryz.call119 Tryz.func119 ?_;refine Y9 ?_;obtain⟨x3,f,b⟩:=ff b;refine s0 (eE rfl rfl (Ar f _ az)) rfl ?_;refine Y2 ?_;obtain⟨k,g,b⟩:=iX (fun _=>rfl) b;refine dP 10 rfl rfl rfl rfl rfl (fun hC=>Nl (g hC)) ?_;refine Y3 ?_;exact rt b
def nx (a0:Z8) (b:cQ):Bool:=on (fW b a0.aa) fun x3=>x3
theorem Xq {a0 a1 c1 r}(b:some (nx a0 a1)=some r) (H:af) (g:H c1=some (.cells (cQ.c a1))):At 76 [.agg (Z8.c a0),.d (.view [.ptr c1 0])] H (RT (.a (.d (.bool r))) H):=by
 unfold nx at b;refine AC.oW 8 [.tmp 3] Tryz.call76 Tryz.func76 ?_;refine Y8 ?_;obtain⟨x3,f,b⟩:=ff b;refine s0 (eE rfl rfl (Ar f _ az)) rfl ?_;refine Y2 ?_;exact rt b
theorem Ns {l:List Z7}{id m:Nat}{nl:Bool}{fd:D}{p:Z7->Bool}{H:af}(hH:H id=some (.arr 10 (l.map Z7.c))) (hm:m=l.length) (j:∀x,gN Tryz.prog fd [.agg (Z7.c x)] H (RT (.a (.d (.bool (p x)))) H)):At 149 [.d (.arr 10 id nl m),.d fd] H (RT (.a (.d (.int .i64 (mw p l)))) H):=by
 subst hm;refine AC.oW 19 [.tmp 4] Tryz.call149 Tryz.func149 ?_;refine Y3 ?_;refine aO kN (fun(z:Unit)=>[]) (fun z=>H) (fun z=>∀x∈l,p x=false) ?_ ?_
 ·intro t k;refine Y2 ?_;refine aK.wj (f:=Z7.c) (l:=l) (TK rfl) rfl rfl rfl hH rfl rfl fun u=>?_;refine Y3 ?_;refine bz (tl [0,1,7]) (fun(z:Nat)=>[(8,vi z)]) (fun z=>H) (fun z=>l.length-z) (fun z=>∀x∈l.take z,p x=false) 0 (by simp) wA ?_;intro i b v q;refine Y3 ?_;refine ar fun w r=>?_;refine ag.cond rfl (fun hc=>?_) (fun hc=>?_)
  ·have hi:i<l.length:=by have:=oD hc; omega
   have hx:l[i]?=some l[i]:=List.getElem?_eq_getElem hi;generalize l[i]=x at hx;refine sk r (ar fun y s=>Y9 ?_);refine s0 (qq (f:=Z7.c) (n:=i) (TK rfl) rfl (TK rfl) rfl rfl rfl hH rfl hx) rfl ?_;refine s0 (wi (f:=Z7.c) (l:=l) (i:=i) (o:=0) (TK rfl) rfl rfl hH rfl hx rfl rfl) rfl ?_;refine s0 (mv rfl rfl (j x)) rfl ?_;refine Y1 ?_;refine ag.cond rfl (fun g=>?_) (fun g=>?_)
   ·have hr:=DV b hx g;refine Y4 ?_;refine ry ?_;rw [<- hr];refine bU.cH H rfl ⟨rfl,rfl⟩ ?_;exact(fun _ _ h=>h)
   refine sk s (Y4 ?_);exact q _ (i+1) wA (DW b hx g) (by omega)
  refine ag.exit ?_;have B:¬i<l.length:=of_decide_eq_false hc ∘ Int.ofNat_lt.2;rw [List.take_of_length_le (by omega)] at b;exact k _ () wA b
 rintro _ b;have hr:=DU b;refine Y3 ?_;refine ry ?_;rw [<- hr];refine bU.cH H rfl ⟨rfl,rfl⟩ ?_;exact(fun _ _ h=>h)
theorem Xr {l:List Z8}{id m:Nat}{nl:Bool}{fd:D}{p:Z8->Bool}{H:af}(hH:H id=some (.arr 2 (l.map Z8.c))) (hm:m=l.length) (j:∀x,gN Tryz.prog fd [.agg (Z8.c x)] H (RT (.a (.d (.bool (p x)))) H)):At 121 [.d (.arr 2 id nl m),.d fd] H (RT (.a (.d (.int .i64 (mw p l)))) H):=by
 subst hm;refine AC.oW 19 [.tmp 4] Tryz.call121 Tryz.func121 ?_;refine Y3 ?_;refine aO kN (fun(z:Unit)=>[]) (fun z=>H) (fun z=>∀x∈l,p x=false) ?_ ?_
 ·intro t k;refine Y2 ?_;refine aK.wj (f:=Z8.c) (l:=l) (TK rfl) rfl rfl rfl hH rfl rfl fun u=>?_;refine Y3 ?_;refine bz (tl [0,1,7]) (fun(z:Nat)=>[(8,vi z)]) (fun z=>H) (fun z=>l.length-z) (fun z=>∀x∈l.take z,p x=false) 0 (by simp) wA ?_;intro i b v q;refine Y3 ?_;refine ar fun w r=>?_;refine ag.cond rfl (fun hc=>?_) (fun hc=>?_)
  ·have hi:i<l.length:=by have:=oD hc; omega
   have hx:l[i]?=some l[i]:=List.getElem?_eq_getElem hi;generalize l[i]=x at hx;refine sk r (ar fun y s=>Y9 ?_);refine s0 (qq (f:=Z8.c) (n:=i) (TK rfl) rfl (TK rfl) rfl rfl rfl hH rfl hx) rfl ?_;refine s0 (wi (f:=Z8.c) (l:=l) (i:=i) (o:=0) (TK rfl) rfl rfl hH rfl hx rfl rfl) rfl ?_;refine s0 (mv rfl rfl (j x)) rfl ?_;refine Y1 ?_;refine ag.cond rfl (fun g=>?_) (fun g=>?_)
   ·have hr:=DV b hx g;refine Y4 ?_;refine ry ?_;rw [<- hr];refine bU.cH H rfl ⟨rfl,rfl⟩ ?_;exact(fun _ _ h=>h)
   refine sk s (Y4 ?_);exact q _ (i+1) wA (DW b hx g) (by omega)
  refine ag.exit ?_;have B:¬i<l.length:=of_decide_eq_false hc ∘ Int.ofNat_lt.2;rw [List.take_of_length_le (by omega)] at b;exact k _ () wA b
 rintro _ b;have hr:=DU b;refine Y3 ?_;refine ry ?_;rw [<- hr];refine bU.cH H rfl ⟨rfl,rfl⟩ ?_;exact(fun _ _ h=>h)
theorem Xs {l:List Bs}{id m:Nat}{nl:Bool}{fd:D}{p:Bs->Bool}{H:af}(hH:H id=some (.arr 1 (l.map aG))) (hm:m=l.length) (j:∀x,gN Tryz.prog fd [.d (.str x)] H (RT (.a (.d (.bool (p x)))) H)):At 69 [.d (.arr 1 id nl m),.d fd] H (RT (.a (.d (.int .i64 (mw p l)))) H):=by
 subst hm;refine AC.oW 19 [.tmp 4] Tryz.call69 Tryz.func69 ?_;refine Y3 ?_;refine aO kN (fun(z:Unit)=>[]) (fun z=>H) (fun z=>∀x∈l,p x=false) ?_ ?_
 ·intro t k;refine Y2 ?_;refine aK.wj (f:=aG) (l:=l) (TK rfl) rfl rfl rfl hH rfl rfl fun u=>?_;refine Y3 ?_;refine bz (tl [0,1,7]) (fun(z:Nat)=>[(8,vi z)]) (fun z=>H) (fun z=>l.length-z) (fun z=>∀x∈l.take z,p x=false) 0 (by simp) wA ?_;intro i b v q;refine Y3 ?_;refine ar fun w r=>?_;refine ag.cond rfl (fun hc=>?_) (fun hc=>?_)
  ·have hi:i<l.length:=by have:=oD hc; omega
   have hx:l[i]?=some l[i]:=List.getElem?_eq_getElem hi;generalize l[i]=x at hx;refine sk r (ar fun y s=>Y9 ?_);refine s0 (qq (f:=aG) (n:=i) (TK rfl) rfl (TK rfl) rfl rfl rfl hH rfl hx) rfl ?_;refine s0 (wi (f:=aG) (l:=l) (i:=i) (o:=0) (TK rfl) rfl rfl hH rfl hx rfl rfl) rfl ?_;refine s0 (mv rfl rfl (j x)) rfl ?_;refine Y1 ?_;refine ag.cond rfl (fun g=>?_) (fun g=>?_)
   ·have hr:=DV b hx g;refine Y4 ?_;refine ry ?_;rw [<- hr];refine bU.cH H rfl ⟨rfl,rfl⟩ ?_;exact(fun _ _ h=>h)
   refine sk s (Y4 ?_);exact q _ (i+1) wA (DW b hx g) (by omega)
  refine ag.exit ?_;have B:¬i<l.length:=of_decide_eq_false hc ∘ Int.ofNat_lt.2;rw [List.take_of_length_le (by omega)] at b;exact k _ () wA b
 rintro _ b;have hr:=DU b;refine Y3 ?_;refine ry ?_;rw [<- hr];refine bU.cH H rfl ⟨rfl,rfl⟩ ?_;exact(fun _ _ h=>h)
theorem Xt {l:List Z7}{id m:Nat}{nl:Bool}{fd:D}{p:Z7->Bool}{H:af}(hH:H id=some (.arr 10 (l.map Z7.c))) (hm:m=l.length) (b:∀x,gN Tryz.prog fd [.agg (Z7.c x)] H (RT (.a (.d (.bool (p x)))) H)):At 115 [.d (.arr 10 id nl m),.d fd] H (RT (.a (.d (.bool (l.any p)))) H):=by
 rw [<- PW];refine AC.oW 9 [.tmp 4] Tryz.call115 Tryz.func115 ?_;refine Y6 ?_;refine s0 (eE rfl rfl (Ns hH hm b)) rfl ?_;refine Y3 ?_;refine ry ?_;refine bU.cH H rfl ⟨rfl,rfl⟩ ?_;exact(fun _ _ h=>h)
theorem Xu {l:List Z7}{id t m:Nat}{nl:Bool}{fd:D}{p:Z7->Bool}{H:af}(hH:H id=some (.arr 10 (l.map Z7.c))) (ht:H t=some (.arr 10 [])) (k:t≠id) (hm:m=l.length) (C:∀x (q:af),(∀n,n≠id->q n=H n)->gN Tryz.prog fd [.agg (Z7.c x)] q (RT (.a (.d (.bool (p x)))) q)):At 118 [.d (.arr 10 id nl m),.d fd] H (RT (.a (.d (bP 10 t nl (l.filter fun x=>!p x).length))) ((H.set id none).set t (some (.arr 10 ((l.filter fun x=>!p x).map Z7.c))))):=by
 subst hm;refine AC.oW 42 [.tmp 4] Tryz.call118 Tryz.func118 ?_;refine Y1 ?_;refine s0 (dM (k':=10) rfl) rfl ?_;refine Y4 ?_;refine s0 (eE rfl rfl (Ns hH rfl (fun x=>C x _ (fun _ _=>rfl)))) rfl ?_;refine Y2 ?_;rcases DX p l with ⟨r,I⟩|⟨i0,r,b⟩
 ·have J:=A9 I;rw [r,J];refine ar fun K E=>Y4 ?_;refine ag.jY rfl rfl ?_;refine ag.wo 0 id t rfl hH ht k (by simp) ?_;refine Y4 ?_;refine ry ?_;refine bU.cH _ rfl ⟨rfl,rfl⟩ ?_;exact(fun _ _ h=>h)
 rw [r];refine ar fun K E=>Y4 ?_;refine ag.uz rfl (by simp) ?_;refine sk E (ag.j7 (h':=(H.set id (some (.arr 10 (l.map Z7.c))))) (af.kD H id _ hH).symm ?_);refine aO (tl [0]) (fun(z:Nat×List Z7)=>[(5,vi z.1)]) (fun z=>(H.set id (some (.arr 10 (z.2.map Z7.c))))) (fun z=>z.1<=z.2.length/\z.2.take z.1=(l.filter fun x=>!p x)/\l.length=z.2.length) ?_ ?_
 ·intro S L;have U:=b.jl;have W:=b.ij;refine ag.DS (f:=Z7.c) (l:=l) id (af.aT _ _ _) fun X=>?_;refine Y6 ?_;refine bz (tl [0,1]) (fun(z:Nat×Nat×List Z7)=>[(5,vi z.1),(6,vi z.2.1)]) (fun z=>(H.set id (some (.arr 10 (z.2.2.map Z7.c))))) (fun z=>l.length-z.2.1) (fun z=>iW p l z.2.2 z.1 z.2.1) (i0,i0+1,l) b wA ?_;rintro ⟨i,j,b9⟩ b Y M;dsimp only at b;have g:=b.len
  refine ar fun Z N=>Y3 ?_;refine aK.wj (f:=Z7.c) (l:=b9) (TK rfl) rfl rfl rfl (af.aT _ _ _) g.symm rfl fun aa=>?_;refine Y2 ?_;refine ag.cond rfl (fun hc=>?_) (fun hc=>?_)
  ·dsimp only at hc;have O:j<b9.length:=by have:=oD hc; omega
   have hx:b9[j]?=some b9[j]:=List.getElem?_eq_getElem O;generalize b9[j]=x at hx;have hi:i<b9.length:=by have:=b.ij; omega
   refine sk N (aO (tl [0,1,6]) (fun(z:Nat×List Z7)=>[(5,vi z.1)]) (fun z=>(H.set id (some (.arr 10 (z.2.map Z7.c))))) (fun z=>iW p l z.2 z.1 (j+1)) ?_ ?_)
   ·intro ab F;refine Y4 ?_;refine s0 (qq (f:=Z7.c) (n:=j) (TK rfl) rfl (TK rfl) rfl rfl rfl (af.aT _ _ _) g.symm hx) rfl ?_;refine s0 (wi (f:=Z7.c) (l:=b9) (i:=j) (o:=0) (TK rfl) rfl rfl (af.aT _ _ _) g.symm hx rfl rfl) rfl ?_;refine Y3 ?_;refine bC 7 _ rfl (kl [0,1,5,6]) ?_;refine Y3 ?_;refine s0 (mv rfl rfl (C x _ (fun n hn=>af.aQ _ _ hn))) rfl ?_;refine Y2 ?_
    refine ag.cond rfl (fun s=>?_) (fun s=>?_)
    ·have v:p x=false:=by simpa using s
     have w:b9[i]?=some b9[i]:=List.getElem?_eq_getElem hi;generalize b9[i]=y at w;refine Y4 ?_;refine s0 (qq (f:=Z7.c) (n:=i) (TK rfl) rfl (TK rfl) rfl rfl rfl (af.aT _ _ _) g.symm w) rfl ?_;refine dB (DF (f:=Z7.c) (l:=b9) (i:=i) (o:=0) (u:=y) (u':=x) (TK rfl) rfl rfl (af.aT _ _ _) g.symm w rfl rfl (by decide) rfl rfl) rfl rfl ?_
     refine aK.fH (h':=(H.set id (some (.arr 10 ((b9.set i x).map Z7.c))))) (af.set_set _ _ _ _) ?_;refine Y6 ?_;exact F _ (i+1,b9.set i x) wA (b.keep hx v)
    have v:p x=true:=by simpa using s
    refine ag.skip ?_;exact F _ (i,b9) wA (b.skip hx v)
   rintro ⟨P,Q⟩ G;dsimp only at G;refine Y5 ?_;exact M _ (P,j+1,Q) wA G (by show l.length-(j+1)<l.length-j; omega)
  refine ag.exit ?_;dsimp only at hc;obtain⟨h1,R⟩:=b.fin (by have:=of_decide_eq_false hc; omega);exact L _ (i,b9) wA ⟨h1,R,g.symm⟩
 rintro ⟨i,b9⟩ ⟨hi,B,g⟩;dsimp only at hi B g;refine Y3 ?_;refine aK.DT (f:=Z7.c) (l:=b9) (i:=i) (pn:=Z7.zero) (TK rfl) rfl (TK rfl) rfl rfl rfl rfl rfl rfl (af.aT _ _ _) g hi rfl ?_;refine aK.fH (h':=(H.set id (some (.arr 10 ((b9.take i++List.replicate (b9.length-i) Z7.zero).map Z7.c))))) (af.set_set _ _ _ _) ?_;refine Y4 ?_
 refine sH (DR (i:=i) (tid:=t) (TK rfl) rfl (TK rfl) rfl rfl (af.aT _ _ _) (by rw [af.aQ _ _ k]; exact ht) k (by simp; omega) (by simp; omega)) rfl ?_;refine Y2 ?_;refine ry ?_;refine bU.cH _ rfl ⟨?_, ?_⟩ (fun _ _ h=>h)
 ·rw [<- B,List.length_take,Nat.min_eq_left hi];rfl
 rw [<- B,af.set_set,<- List.map_take,List.take_left' (by rw [List.length_take,Nat.min_eq_left hi])]
theorem Xv {l:List Z8}{id t m:Nat}{nl:Bool}{fd:D}{p:Z8->Bool}{H:af}(hH:H id=some (.arr 2 (l.map Z8.c))) (ht:H t=some (.arr 2 [])) (k:t≠id) (hm:m=l.length) (C:∀x (q:af),(∀n,n≠id->q n=H n)->gN Tryz.prog fd [.agg (Z8.c x)] q (RT (.a (.d (.bool (p x)))) q)):At 75 [.d (.arr 2 id nl m),.d fd] H (RT (.a (.d (bP 2 t nl (l.filter fun x=>!p x).length))) ((H.set id none).set t (some (.arr 2 ((l.filter fun x=>!p x).map Z8.c))))):=by
 subst hm;refine AC.oW 42 [.tmp 4] Tryz.call75 Tryz.func75 ?_;refine Y1 ?_;refine s0 (dM (k':=2) rfl) rfl ?_;refine Y4 ?_;refine s0 (eE rfl rfl (Xr hH rfl (fun x=>C x _ (fun _ _=>rfl)))) rfl ?_;refine Y2 ?_;rcases DX p l with ⟨r,I⟩|⟨i0,r,b⟩
 ·have J:=A9 I;rw [r,J];refine ar fun K E=>Y4 ?_;refine ag.jY rfl rfl ?_;refine ag.wo 0 id t rfl hH ht k (by simp) ?_;refine Y4 ?_;refine ry ?_;refine bU.cH _ rfl ⟨rfl,rfl⟩ ?_;exact(fun _ _ h=>h)
 rw [r];refine ar fun K E=>Y4 ?_;refine ag.uz rfl (by simp) ?_;refine sk E (ag.j7 (h':=(H.set id (some (.arr 2 (l.map Z8.c))))) (af.kD H id _ hH).symm ?_);refine aO (tl [0]) (fun(z:Nat×List Z8)=>[(5,vi z.1)]) (fun z=>(H.set id (some (.arr 2 (z.2.map Z8.c))))) (fun z=>z.1<=z.2.length/\z.2.take z.1=(l.filter fun x=>!p x)/\l.length=z.2.length) ?_ ?_
 ·intro S L;have U:=b.jl;have W:=b.ij;refine ag.DS (f:=Z8.c) (l:=l) id (af.aT _ _ _) fun X=>?_;refine Y6 ?_;refine bz (tl [0,1]) (fun(z:Nat×Nat×List Z8)=>[(5,vi z.1),(6,vi z.2.1)]) (fun z=>(H.set id (some (.arr 2 (z.2.2.map Z8.c))))) (fun z=>l.length-z.2.1) (fun z=>iW p l z.2.2 z.1 z.2.1) (i0,i0+1,l) b wA ?_;rintro ⟨i,j,b9⟩ b Y M;dsimp only at b;have g:=b.len
  refine ar fun Z N=>Y3 ?_;refine aK.wj (f:=Z8.c) (l:=b9) (TK rfl) rfl rfl rfl (af.aT _ _ _) g.symm rfl fun aa=>?_;refine Y2 ?_;refine ag.cond rfl (fun hc=>?_) (fun hc=>?_)
  ·dsimp only at hc;have O:j<b9.length:=by have:=oD hc; omega
   have hx:b9[j]?=some b9[j]:=List.getElem?_eq_getElem O;generalize b9[j]=x at hx;have hi:i<b9.length:=by have:=b.ij; omega
   refine sk N (aO (tl [0,1,6]) (fun(z:Nat×List Z8)=>[(5,vi z.1)]) (fun z=>(H.set id (some (.arr 2 (z.2.map Z8.c))))) (fun z=>iW p l z.2 z.1 (j+1)) ?_ ?_)
   ·intro ab F;refine Y4 ?_;refine s0 (qq (f:=Z8.c) (n:=j) (TK rfl) rfl (TK rfl) rfl rfl rfl (af.aT _ _ _) g.symm hx) rfl ?_;refine s0 (wi (f:=Z8.c) (l:=b9) (i:=j) (o:=0) (TK rfl) rfl rfl (af.aT _ _ _) g.symm hx rfl rfl) rfl ?_;refine Y3 ?_;refine bC 7 _ rfl (kl [0,1,5,6]) ?_;refine Y3 ?_;refine s0 (mv rfl rfl (C x _ (fun n hn=>af.aQ _ _ hn))) rfl ?_;refine Y2 ?_
    refine ag.cond rfl (fun s=>?_) (fun s=>?_)
    ·have v:p x=false:=by simpa using s
     have w:b9[i]?=some b9[i]:=List.getElem?_eq_getElem hi;generalize b9[i]=y at w;refine Y4 ?_;refine s0 (qq (f:=Z8.c) (n:=i) (TK rfl) rfl (TK rfl) rfl rfl rfl (af.aT _ _ _) g.symm w) rfl ?_;refine dB (DF (f:=Z8.c) (l:=b9) (i:=i) (o:=0) (u:=y) (u':=x) (TK rfl) rfl rfl (af.aT _ _ _) g.symm w rfl rfl (by decide) rfl rfl) rfl rfl ?_
     refine aK.fH (h':=(H.set id (some (.arr 2 ((b9.set i x).map Z8.c))))) (af.set_set _ _ _ _) ?_;refine Y6 ?_;exact F _ (i+1,b9.set i x) wA (b.keep hx v)
    have v:p x=true:=by simpa using s
    refine ag.skip ?_;exact F _ (i,b9) wA (b.skip hx v)
   rintro ⟨P,Q⟩ G;dsimp only at G;refine Y5 ?_;exact M _ (P,j+1,Q) wA G (by show l.length-(j+1)<l.length-j; omega)
  refine ag.exit ?_;dsimp only at hc;obtain⟨h1,R⟩:=b.fin (by have:=of_decide_eq_false hc; omega);exact L _ (i,b9) wA ⟨h1,R,g.symm⟩
 rintro ⟨i,b9⟩ ⟨hi,B,g⟩;dsimp only at hi B g;refine Y3 ?_;refine aK.DT (f:=Z8.c) (l:=b9) (i:=i) (pn:=Z8.zero) (TK rfl) rfl (TK rfl) rfl rfl rfl rfl rfl rfl (af.aT _ _ _) g hi rfl ?_;refine aK.fH (h':=(H.set id (some (.arr 2 ((b9.take i++List.replicate (b9.length-i) Z8.zero).map Z8.c))))) (af.set_set _ _ _ _) ?_;refine Y4 ?_
 refine sH (DR (i:=i) (tid:=t) (TK rfl) rfl (TK rfl) rfl rfl (af.aT _ _ _) (by rw [af.aQ _ _ k]; exact ht) k (by simp; omega) (by simp; omega)) rfl ?_;refine Y2 ?_;refine ry ?_;refine bU.cH _ rfl ⟨?_, ?_⟩ (fun _ _ h=>h)
 ·rw [<- B,List.length_take,Nat.min_eq_left hi];rfl
 rw [<- B,af.set_set,<- List.map_take,List.take_left' (by rw [List.length_take,Nat.min_eq_left hi])]
theorem Xw {l:List Bs}{id t m:Nat}{nl:Bool}{fd:D}{p:Bs->Bool}{H:af}(hH:H id=some (.arr 1 (l.map aG))) (ht:H t=some (.arr 1 [])) (k:t≠id) (hm:m=l.length) (C:∀x (q:af),(∀n,n≠id->q n=H n)->gN Tryz.prog fd [.d (.str x)] q (RT (.a (.d (.bool (p x)))) q)):At 77 [.d (.arr 1 id nl m),.d fd] H (RT (.a (.d (bP 1 t nl (l.filter fun x=>!p x).length))) ((H.set id none).set t (some (.arr 1 ((l.filter fun x=>!p x).map aG))))):=by
 subst hm;refine AC.oW 42 [.tmp 4] Tryz.call77 Tryz.func77 ?_;refine Y1 ?_;refine s0 (dM (k':=1) rfl) rfl ?_;refine Y4 ?_;refine s0 (eE rfl rfl (Xs hH rfl (fun x=>C x _ (fun _ _=>rfl)))) rfl ?_;refine Y2 ?_;rcases DX p l with ⟨r,I⟩|⟨i0,r,b⟩
 ·have J:=A9 I;rw [r,J];refine ar fun K E=>Y4 ?_;refine ag.jY rfl rfl ?_;refine ag.wo 0 id t rfl hH ht k (by simp) ?_;refine Y4 ?_;refine ry ?_;refine bU.cH _ rfl ⟨rfl,rfl⟩ ?_;exact(fun _ _ h=>h)
 rw [r];refine ar fun K E=>Y4 ?_;refine ag.uz rfl (by simp) ?_;refine sk E (ag.j7 (h':=(H.set id (some (.arr 1 (l.map aG))))) (af.kD H id _ hH).symm ?_);refine aO (tl [0]) (fun(z:Nat×List Bs)=>[(5,vi z.1)]) (fun z=>(H.set id (some (.arr 1 (z.2.map aG))))) (fun z=>z.1<=z.2.length/\z.2.take z.1=(l.filter fun x=>!p x)/\l.length=z.2.length) ?_ ?_
 ·intro S L;have U:=b.jl;have W:=b.ij;refine ag.DS (f:=aG) (l:=l) id (af.aT _ _ _) fun X=>?_;refine Y6 ?_;refine bz (tl [0,1]) (fun(z:Nat×Nat×List Bs)=>[(5,vi z.1),(6,vi z.2.1)]) (fun z=>(H.set id (some (.arr 1 (z.2.2.map aG))))) (fun z=>l.length-z.2.1) (fun z=>iW p l z.2.2 z.1 z.2.1) (i0,i0+1,l) b wA ?_;rintro ⟨i,j,b9⟩ b Y M;dsimp only at b;have g:=b.len
  refine ar fun Z N=>Y3 ?_;refine aK.wj (f:=aG) (l:=b9) (TK rfl) rfl rfl rfl (af.aT _ _ _) g.symm rfl fun aa=>?_;refine Y2 ?_;refine ag.cond rfl (fun hc=>?_) (fun hc=>?_)
  ·dsimp only at hc;have O:j<b9.length:=by have:=oD hc; omega
   have hx:b9[j]?=some b9[j]:=List.getElem?_eq_getElem O;generalize b9[j]=x at hx;have hi:i<b9.length:=by have:=b.ij; omega
   refine sk N (aO (tl [0,1,6]) (fun(z:Nat×List Bs)=>[(5,vi z.1)]) (fun z=>(H.set id (some (.arr 1 (z.2.map aG))))) (fun z=>iW p l z.2 z.1 (j+1)) ?_ ?_)
   ·intro ab F;refine Y4 ?_;refine s0 (qq (f:=aG) (n:=j) (TK rfl) rfl (TK rfl) rfl rfl rfl (af.aT _ _ _) g.symm hx) rfl ?_;refine s0 (wi (f:=aG) (l:=b9) (i:=j) (o:=0) (TK rfl) rfl rfl (af.aT _ _ _) g.symm hx rfl rfl) rfl ?_;refine Y5 ?_;refine s0 (mv rfl rfl (C x _ (fun n hn=>af.aQ _ _ hn))) rfl ?_;refine Y2 ?_;refine ag.cond rfl (fun s=>?_) (fun s=>?_)
    ·have v:p x=false:=by simpa using s
     have w:b9[i]?=some b9[i]:=List.getElem?_eq_getElem hi;generalize b9[i]=y at w;refine Y4 ?_;refine s0 (qq (f:=aG) (n:=i) (TK rfl) rfl (TK rfl) rfl rfl rfl (af.aT _ _ _) g.symm w) rfl ?_;refine dB (DF (f:=aG) (l:=b9) (i:=i) (o:=0) (u:=y) (u':=x) (TK rfl) rfl rfl (af.aT _ _ _) g.symm w rfl rfl (by decide) rfl rfl) rfl rfl ?_
     refine aK.fH (h':=(H.set id (some (.arr 1 ((b9.set i x).map aG))))) (af.set_set _ _ _ _) ?_;refine Y6 ?_;exact F _ (i+1,b9.set i x) wA (b.keep hx v)
    have v:p x=true:=by simpa using s
    refine ag.skip ?_;exact F _ (i,b9) wA (b.skip hx v)
   rintro ⟨P,Q⟩ G;dsimp only at G;refine Y5 ?_;exact M _ (P,j+1,Q) wA G (by show l.length-(j+1)<l.length-j; omega)
  refine ag.exit ?_;dsimp only at hc;obtain⟨h1,R⟩:=b.fin (by have:=of_decide_eq_false hc; omega);exact L _ (i,b9) wA ⟨h1,R,g.symm⟩
 rintro ⟨i,b9⟩ ⟨hi,B,g⟩;dsimp only at hi B g;refine Y3 ?_;refine aK.DT (f:=aG) (l:=b9) (i:=i) (pn:=([]:Bs)) (TK rfl) rfl (TK rfl) rfl rfl rfl rfl rfl rfl (af.aT _ _ _) g hi rfl ?_;refine aK.fH (h':=(H.set id (some (.arr 1 ((b9.take i++List.replicate (b9.length-i) ([]:Bs)).map aG))))) (af.set_set _ _ _ _) ?_;refine Y4 ?_
 refine sH (DR (i:=i) (tid:=t) (TK rfl) rfl (TK rfl) rfl rfl (af.aT _ _ _) (by rw [af.aQ _ _ k]; exact ht) k (by simp; omega) (by simp; omega)) rfl ?_;refine Y2 ?_;refine ry ?_;refine bU.cH _ rfl ⟨?_, ?_⟩ (fun _ _ h=>h)
 ·rw [<- B,List.length_take,Nat.min_eq_left hi];rfl
 rw [<- B,af.set_set,<- List.map_take,List.take_left' (by rw [List.length_take,Nat.min_eq_left hi])]
theorem Xx {s:Sl Z7}{id t:Nat}{fd:D}{p:Z7->Bool}{H:af}(hH:H id=some (.arr 10 (s.l.map Z7.c))) (ht:H t=some (.arr 10 [])) (g:t≠id) (f:∀x (b:af),(∀n,n≠id->b n=H n)->gN Tryz.prog fd [.agg (Z7.c x)] b (RT (.a (.d (.bool (p x)))) b)):At 118 [.d (bP 10 id s.nl s.l.length),.d fd] H (RT (.a (.d (bP 10 t s.nl (s.l.filter fun x=>!p x).length))) ((H.set id none).set t (some (.arr 10 ((s.l.filter fun x=>!p x).map Z7.c))))):=by
 rcases s with ⟨nl,l⟩;cases l with
 | nil =>
  refine AC.forget (Xk (a0:=⟨nl,[]⟩) (w0:=none) (a1:=fun x=>some (p x)) (r:=⟨nl,[]⟩) rfl H fun x r hx=>?_) fun n o hn=>?_
  ·obtain rfl:=oJ hx;exact f x H fun _ _=>rfl
  by_cases c:n=t
  ·subst c; rw [af.aT] at hn; rw [ht,<- hn]; rfl
  rw [af.aQ _ _ c] at hn;by_cases c:n=id
  ·subst c; rw [af.aT] at hn; cases hn
  rwa [af.aQ _ _ c] at hn
 | cons a r=>exact Xu hH ht g rfl f
theorem Xy {s:Sl Z7}{id:Nat}{fd:D}{p:Z7->Bool}{H:af}(hH:H id=some (.arr 10 (s.l.map Z7.c))) (b:∀x,gN Tryz.prog fd [.agg (Z7.c x)] H (RT (.a (.d (.bool (p x)))) H)):At 115 [.d (bP 10 id s.nl s.l.length),.d fd] H (RT (.a (.d (.bool (s.l.any p)))) H):=by
 rcases s with ⟨nl,l⟩;cases l with
 | nil=>exact Xj (a0:=⟨nl,[]⟩) (w0:=none) (a1:=fun x=>some (p x)) (r:=false) rfl H fun x r hx=>by obtain rfl:=oJ hx; exact b x
 | cons a r=>exact Xt hH rfl b
theorem Xz {s:Sl Z8}{id t:Nat}{fd:D}{p:Z8->Bool}{H:af}(hH:H id=some (.arr 2 (s.l.map Z8.c))) (ht:H t=some (.arr 2 [])) (g:t≠id) (f:∀x (b:af),(∀n,n≠id->b n=H n)->gN Tryz.prog fd [.agg (Z8.c x)] b (RT (.a (.d (.bool (p x)))) b)):At 75 [.d (bP 2 id s.nl s.l.length),.d fd] H (RT (.a (.d (bP 2 t s.nl (s.l.filter fun x=>!p x).length))) ((H.set id none).set t (some (.arr 2 ((s.l.filter fun x=>!p x).map Z8.c))))):=by
 rcases s with ⟨nl,l⟩;cases l with
 | nil =>
  refine AC.forget (Xl (a0:=⟨nl,[]⟩) (w0:=none) (a1:=fun x=>some (p x)) (r:=⟨nl,[]⟩) rfl H fun x r hx=>?_) fun n o hn=>?_
  ·obtain rfl:=oJ hx;exact f x H fun _ _=>rfl
  by_cases c:n=t
  ·subst c; rw [af.aT] at hn; rw [ht,<- hn]; rfl
  rw [af.aQ _ _ c] at hn;by_cases c:n=id
  ·subst c; rw [af.aT] at hn; cases hn
  rwa [af.aQ _ _ c] at hn
 | cons a r=>exact Xv hH ht g rfl f
theorem XA {s:Sl Bs}{id t:Nat}{fd:D}{p:Bs->Bool}{H:af}(hH:H id=some (.arr 1 (s.l.map aG))) (ht:H t=some (.arr 1 [])) (g:t≠id) (f:∀x (b:af),(∀n,n≠id->b n=H n)->gN Tryz.prog fd [.d (.str x)] b (RT (.a (.d (.bool (p x)))) b)):At 77 [.d (bP 1 id s.nl s.l.length),.d fd] H (RT (.a (.d (bP 1 t s.nl (s.l.filter fun x=>!p x).length))) ((H.set id none).set t (some (.arr 1 ((s.l.filter fun x=>!p x).map aG))))):=by
 rcases s with ⟨nl,l⟩;cases l with
 | nil =>
  refine AC.forget (Xm (a0:=⟨nl,[]⟩) (w0:=none) (a1:=fun x=>some (p x)) (r:=⟨nl,[]⟩) rfl H fun x r hx=>?_) fun n o hn=>?_
  ·obtain rfl:=oJ hx;exact f x H fun _ _=>rfl
  by_cases c:n=t
  ·subst c; rw [af.aT] at hn; rw [ht,<- hn]; rfl
  rw [af.aQ _ _ c] at hn;by_cases c:n=id
  ·subst c; rw [af.aT] at hn; cases hn
  rwa [af.aQ _ _ c] at hn
 | cons a r=>exact Xw hH ht g rfl f
theorem Nt {a0:Sl Z7}{w0:Option Nat}{g:Nat}{r:Sl Z7}(b:CN a0=some r) (H:af) (N:H g=some (.arr 10 [])) :At 39 [.d (Sl.d 10 Z7.c w0 a0)] H (RT (.a (.d (.arr 10 g r.nl r.l.length))) (H.set g (some (.arr 10 (r.l.map Z7.c))))):=by
 unfold CN vq at b;refine AC.oW 32 [.tmp 2] Tryz.call39 Tryz.func39 ?_;refine hz (H.set g (some (.arr 10 []))) (Y1 ?_);refine s0 (dM (k':=10) rfl) rfl ?_;refine aK.A7 2 10 g rfl az ?_;refine Y2 ?_;refine s0 (dM (k':=10) rfl) rfl ?_;refine aK.A7 3 10 g rfl az ?_;refine Y1 ?_
 refine aO kN (fun(z:(Sl Z7))=>[(3,.a (.d (.arr 10 g z.nl z.l.length)))]) (fun z=>(H.set g (some (.arr 10 (z.l.map Z7.c))))) (fun z=>(some z)=some r) ?_ ?_
 ·intro O t;refine Y2 ?_;refine aU Z7.c a0 fun P=>Y3 ?_;obtain⟨m,u,b⟩:=bZ b;refine bz (tl [6,7]) (fun(z:Nat×(Sl Z7))=>[(8,vi z.1),(3,.a (.d (.arr 10 g z.2.nl z.2.l.length)))]) (fun z=>(H.set g (some (.arr 10 (z.2.l.map Z7.c))))) (fun z=>a0.l.length-z.1) (fun z=>Option.bind (mb  (a0.l.drop z.1) z.2) m=some r) (0,(Sl.nil:Sl Z7)) b wA ?_;rintro ⟨p,k⟩ b Q v;refine Y1 ?_;(first
   | refine s0 (yC rfl rfl rfl) rfl ?_
   | refine s0 (Dn rfl rfl rfl) rfl ?_)
  refine Y1 ?_;refine ar fun R w=>?_;refine ag.bJ (fun l=>Option.bind (mb  l k) m=some r) b rfl (fun U q y b=>?_) (fun y b=>?_)
  ·rw [mb] at b;refine sk w (ar fun W B=>Y2 ?_);obtain⟨j,C,b⟩:=vO q b;refine S (ix Z7.c p C) ?_;(first
    | refine s0 (nL (TK rfl) rfl rfl rfl rfl) rfl ?_
    | refine s0 (dK (TK rfl) rfl rfl rfl) rfl ?_
    | refine s0 (eD (TK rfl) rfl rfl (by(first|assumption|exact af.aT _ _ _|((repeat (refine(af.aQ _ _ (by first|assumption|(apply Ne.symm; assumption))).trans ?_)); first|assumption|exact af.aT _ _ _)|(simp only [af.set_set,af.aT]; done)|(simp [af.set, *]; done))) rfl) rfl ?_)
   refine Y1 ?_;(first
    | refine iT (yO (TK rfl) rfl rfl rfl rfl rfl) ?_
    | refine iT (mr (TK rfl) rfl rfl rfl rfl (by repeat (first|exact bE.zero|apply bE.succ)) (by repeat (first|exact bE.zero|apply bE.succ))) ?_
    | refine dB (gw (TK rfl) rfl rfl (by(first|assumption|exact af.aT _ _ _|((repeat (refine(af.aQ _ _ (by first|assumption|(apply Ne.symm; assumption))).trans ?_)); first|assumption|exact af.aT _ _ _)|(simp only [af.set_set,af.aT]; done)|(simp [af.set, *]; done))) rfl (by repeat (first|exact bE.zero|apply bE.succ))) rfl rfl ?_)
   refine Y2 ?_;(first
    | refine s0 (pe (TK rfl) rfl rfl (TK rfl) rfl rfl) rfl ?_
    | refine s0 (qp (TK rfl) rfl rfl (TK rfl) rfl rfl) rfl ?_
    | refine s0 (iK (TK rfl) rfl rfl (TK rfl) rfl rfl) rfl ?_)
   (first
    | refine s0 (pe (TK rfl) rfl rfl (TK rfl) rfl rfl) rfl ?_
    | refine s0 (qp (TK rfl) rfl rfl (TK rfl) rfl rfl) rfl ?_
    | refine s0 (iK (TK rfl) rfl rfl (TK rfl) rfl rfl) rfl ?_)
   (first
    | refine s0 (nL (TK rfl) rfl rfl rfl rfl) rfl ?_
    | refine s0 (dK (TK rfl) rfl rfl rfl) rfl ?_
    | refine s0 (eD (TK rfl) rfl rfl (by(first|assumption|exact af.aT _ _ _|((repeat (refine(af.aQ _ _ (by first|assumption|(apply Ne.symm; assumption))).trans ?_)); first|assumption|exact af.aT _ _ _)|(simp only [af.set_set,af.aT]; done)|(simp [af.set, *]; done))) rfl) rfl ?_)
   obtain⟨E,F,b⟩:=aJ b;refine Sc rfl rfl (Ak F) ?_;(first
    | refine s0 (pe (TK rfl) rfl rfl (TK rfl) rfl rfl) rfl ?_
    | refine s0 (qp (TK rfl) rfl rfl (TK rfl) rfl rfl) rfl ?_
    | refine s0 (iK (TK rfl) rfl rfl (TK rfl) rfl rfl) rfl ?_)
   (first
    | refine s0 (pe (TK rfl) rfl rfl (TK rfl) rfl rfl) rfl ?_
    | refine s0 (qp (TK rfl) rfl rfl (TK rfl) rfl rfl) rfl ?_
    | refine s0 (iK (TK rfl) rfl rfl (TK rfl) rfl rfl) rfl ?_)
   (first
    | refine iT (yO (TK rfl) rfl rfl rfl rfl rfl) ?_
    | refine iT (mr (TK rfl) rfl rfl rfl rfl (by repeat (first|exact bE.zero|apply bE.succ)) (by repeat (first|exact bE.zero|apply bE.succ))) ?_
    | refine dB (gw (TK rfl) rfl rfl (by(first|assumption|exact af.aT _ _ _|((repeat (refine(af.aQ _ _ (by first|assumption|(apply Ne.symm; assumption))).trans ?_)); first|assumption|exact af.aT _ _ _)|(simp only [af.set_set,af.aT]; done)|(simp [af.set, *]; done))) rfl (by repeat (first|exact bE.zero|apply bE.succ))) rfl rfl ?_)
   refine Y2 ?_;(first
    | refine s0 (pe (TK rfl) rfl rfl (TK rfl) rfl rfl) rfl ?_
    | refine s0 (qp (TK rfl) rfl rfl (TK rfl) rfl rfl) rfl ?_
    | refine s0 (iK (TK rfl) rfl rfl (TK rfl) rfl rfl) rfl ?_)
   (first
    | refine s0 (nL (TK rfl) rfl rfl rfl rfl) rfl ?_
    | refine s0 (dK (TK rfl) rfl rfl rfl) rfl ?_
    | refine s0 (eD (TK rfl) rfl rfl (by(first|assumption|exact af.aT _ _ _|((repeat (refine(af.aQ _ _ (by first|assumption|(apply Ne.symm; assumption))).trans ?_)); first|assumption|exact af.aT _ _ _)|(simp only [af.set_set,af.aT]; done)|(simp [af.set, *]; done))) rfl) rfl ?_)
   obtain⟨G,I,b⟩:=aJ b;refine Sc rfl rfl (Aj I) ?_;(first
    | refine s0 (pe (TK rfl) rfl rfl (TK rfl) rfl rfl) rfl ?_
    | refine s0 (qp (TK rfl) rfl rfl (TK rfl) rfl rfl) rfl ?_
    | refine s0 (iK (TK rfl) rfl rfl (TK rfl) rfl rfl) rfl ?_)
   refine iT (Hs (xs':=Z7.c (Z7.mk j.aa (aL.mk j.av.aa E) j.ck G j.bf)) (TK rfl) rfl rfl rfl rfl (Nat.le_of_ble_eq_true rfl) rfl (by repeat (first|exact bE.zero|apply bE.succ))) ?_;refine Y2 ?_;(first
    | refine s0 (pe (TK rfl) rfl rfl (TK rfl) rfl rfl) rfl ?_
    | refine s0 (qp (TK rfl) rfl rfl (TK rfl) rfl rfl) rfl ?_
    | refine s0 (iK (TK rfl) rfl rfl (TK rfl) rfl rfl) rfl ?_)
   (first
    | refine s0 (nL (TK rfl) rfl rfl rfl rfl) rfl ?_
    | refine s0 (dK (TK rfl) rfl rfl rfl) rfl ?_
    | refine s0 (eD (TK rfl) rfl rfl (by(first|assumption|exact af.aT _ _ _|((repeat (refine(af.aQ _ _ (by first|assumption|(apply Ne.symm; assumption))).trans ?_)); first|assumption|exact af.aT _ _ _)|(simp only [af.set_set,af.aT]; done)|(simp [af.set, *]; done))) rfl) rfl ?_)
   obtain⟨X,J,b⟩:=aJ b;refine Sc rfl rfl (ul J) ?_;(first
    | refine s0 (pe (TK rfl) rfl rfl (TK rfl) rfl rfl) rfl ?_
    | refine s0 (qp (TK rfl) rfl rfl (TK rfl) rfl rfl) rfl ?_
    | refine s0 (iK (TK rfl) rfl rfl (TK rfl) rfl rfl) rfl ?_)
   (first
    | refine iT (yO (TK rfl) rfl rfl rfl rfl rfl) ?_
    | refine iT (mr (TK rfl) rfl rfl rfl rfl (by repeat (first|exact bE.zero|apply bE.succ)) (by repeat (first|exact bE.zero|apply bE.succ))) ?_
    | refine dB (gw (TK rfl) rfl rfl (by(first|assumption|exact af.aT _ _ _|((repeat (refine(af.aQ _ _ (by first|assumption|(apply Ne.symm; assumption))).trans ?_)); first|assumption|exact af.aT _ _ _)|(simp only [af.set_set,af.aT]; done)|(simp [af.set, *]; done))) rfl (by repeat (first|exact bE.zero|apply bE.succ))) rfl rfl ?_)
   refine Y3 ?_;(first
    | refine s0 (nL (TK rfl) rfl rfl rfl rfl) rfl ?_
    | refine s0 (dK (TK rfl) rfl rfl rfl) rfl ?_
    | refine s0 (eD (TK rfl) rfl rfl (by(first|assumption|exact af.aT _ _ _|((repeat (refine(af.aQ _ _ (by first|assumption|(apply Ne.symm; assumption))).trans ?_)); first|assumption|exact af.aT _ _ _)|(simp only [af.set_set,af.aT]; done)|(simp [af.set, *]; done))) rfl) rfl ?_)
   refine Y1 ?_;obtain⟨K,L,b⟩:=aJ b;refine sH (DG (f:=Z7.c) (s:=k) (TK rfl) rfl (TK rfl) (TK rfl) ⟨_,rfl⟩ rfl rfl rfl rfl rfl rfl az (by first|rfl|simp [Sl.HR,Sl.nil,H9]) rfl L) rfl ?_;refine Y2 ?_;refine B _ ?_;refine Y4 ?_;exact v _ ((p+1),K) wA b (dl q)
  rw [mb] at b;have b:=ku u b;refine ag.exit ?_;obtain⟨Y,M,b⟩:=bW b;exact t _ k wA (ku M b:)
 rintro Z b;refine Y4 ?_;exact rt b
def lE (c:cQ) (s:Sl Z7):Sl Z7×Bool×cQ :=
 (⟨s.nl,s.l.filter fun x=>!rO x c⟩,s.l.any fun x=>yc x c,⟨c.Fd,c.gK||(decide ((((s.l.filter fun x=>!rO x c).length:Nat):Int)<((s.l.length:Nat):Int)))⟩)
theorem Nu {c:cQ}{s:Sl Z7}{c0 id t:Nat}{H:af}(hc:H c0=some (.cells (cQ.c c))) (hi:H id=some (.arr 10 (s.l.map Z7.c))) (ht:H t=some (.arr 10 [])) (h1:c0≠id) (f:c0≠t) (g:t≠id) :
  At 73 [.d (.ptr c0 0),.d (bP 10 id s.nl s.l.length)] H fun v h'=>v=.cL [.d (bP 10 t (lE c s).1.nl (lE c s).1.l.length),.d (.bool (lE c s).2.1)] /\
   h'=(((H.set id none).set t (some (.arr 10 ((lE c s).1.l.map Z7.c)))).set c0 (some (.cells (cQ.c (lE c s).2.2)))):=by
 refine AC.oW 31 [.tmp 4,.tmp 5] Tryz.call73 Tryz.func73 ?_;refine Y2 ?_;refine s0 (dM (k':=10) rfl) rfl ?_;refine Y4 ?_;refine s0 (makeFunc rfl) rfl ?_;refine s0 (eE rfl rfl (Xy (p:=fun x=>yc x c) hi (fun x=>Xo (a0:=x) (a1:=c) rfl H hc))) rfl ?_;refine Y4 ?_;refine s0 (sx (TK rfl) rfl rfl rfl) rfl ?_;refine Y4 ?_;refine s0 (makeFunc rfl) rfl ?_
 refine sH (bV rfl rfl (Xx (p:=fun x=>rO x c) hi ht g (fun x j q=>Xp (a0:=x) (a1:=c) rfl j (by rw [q c0 h1]; exact hc)))) rfl ?_;refine Y2 ?_;have b:((H.set id none).set t (some (.arr 10 ((s.l.filter fun x=>!rO x c).map Z7.c)))) c0=some (.cells (cQ.c c)):=by rw [af.aQ _ _ f,af.aQ _ _ h1]; exact hc
 refine Y5 ?_;refine aN.s0 (eD (TK rfl) rfl rfl b rfl) rfl ?_;refine Y2 ?_;refine j9 22 rfl (fun hC=>sx (k:=10) (id:=t) (nl:=s.nl) (m:=(s.l.filter fun x=>!rO x c).length) (TK rfl) rfl rfl rfl) ?_;refine Y1 ?_;refine qx 23 24 rfl rfl BI ?_;refine Y3 ?_;refine aN.dB (gw (TK rfl) rfl rfl b rfl (by repeat (first|exact bE.zero|apply bE.succ))) rfl rfl ?_;refine Y7 ?_;refine ry ?_
 refine bU.cH _ rfl ⟨rfl,rfl⟩ ?_;exact(fun _ _ h=>h)
/-! ### The parts of a definition that are deleted from -/
noncomputable def eu (p:Z6×Nat):List D:=[.str p.1.aa,bP 10 p.2 p.1.ay.nl p.1.ay.l.length]++aL.c p.1.av++[Sl.d 2 aA.c none p.1.bf]
structure bY where
 ip:Nat
 im:Nat
 ii:Nat
 fs:List Nat
def bY.all (i:bY):List Nat:=i.ip::i.im::i.ii::i.fs
noncomputable def fm (t:ah) (i:bY):cT:=⟨t.ai,t.aa,bP 1 i.ip t.aM.nl t.aM.l.length,Sl.d 2 aA.c none t.bf,Sl.d 5 eu none ⟨t.aq.nl,t.aq.l.zip i.fs⟩,bP 2 i.im t.ax.nl t.ax.l.length,bP 10 i.ii t.aF.nl t.aF.l.length⟩
/-- What the heap holds of a definition. -/
structure ig (h:af) (t:ah) (i:bY):Prop where
 len:i.fs.length=t.aq.l.length
 ip:h i.ip=some (.arr 1 (t.aM.l.map aG))
 im:h i.im=some (.arr 2 (t.ax.l.map Z8.c))
 ii:h i.ii=some (.arr 10 (t.aF.l.map Z7.c))
 fs:∀p∈t.aq.l.zip i.fs,h p.2=some (.arr 10 (p.1.ay.l.map Z7.c))
noncomputable def gL (d:jd):List Z6->Bool->List Z6×Bool
 | [],ch=>([],ch)
 | f::l,ch=>bif (lE ⟨d,ch⟩ f.ay).2.1||fW ⟨d,ch⟩ f.av.aa then gL d l true
  else(Z6.mk f.aa (lE ⟨d,ch⟩ f.ay).1 f.av f.bf::(gL d l (lE ⟨d,ch⟩ f.ay).2.2.gK).1,(gL d l (lE ⟨d,ch⟩ f.ay).2.2.gK).2)
/-- A heap with a cutter, a definition and a list of fields that grows. -/
noncomputable def dH (B:af) (c0 c1 tk:Nat) (C:cQ) (T:List D) (n:Nat):af:=((B.set c0 (some (.cells (cQ.c C)))).set c1 (some (.cells T))).set tk (some (.tok 5 n))
section
variable {B:af}{c0 c1 tk:Nat}{C C':cQ}{T T':List D}{n n':Nat}
theorem qg (h1:c0≠c1) (b:c0≠tk):dH B c0 c1 tk C T n c0=some (.cells (cQ.c C)):=by unfold dH; rw [af.aQ _ _ b,af.aQ _ _ h1,af.aT]
theorem je (h:c1≠tk):dH B c0 c1 tk C T n c1=some (.cells T):=by unfold dH; rw [af.aQ _ _ h,af.aT]
theorem Gt:dH B c0 c1 tk C T n tk=some (.tok 5 n):=by unfold dH; rw [af.aT]
theorem oQ {x:Nat}(h0:x≠c0) (h1:x≠c1) (b:x≠tk):dH B c0 c1 tk C T n x=B x:=by unfold dH; rw [af.aQ _ _ b,af.aQ _ _ h1,af.aQ _ _ h0]
theorem set_comm {h:af}{a b:Nat}{x y:Option Ab.Obj}(g:a≠b):(h.set a x).set b y=(h.set b y).set a x:=by
 funext m
 by_cases e:m=b
 ·subst e; rw [af.aT,af.aQ _ _ (fun e=>g e.symm),af.aT]
 rw [af.aQ _ _ e];by_cases f:m=a
 ·subst f; rw [af.aT,af.aT]
 rw [af.aQ _ _ f,af.aQ _ _ f,af.aQ _ _ e]
theorem yd {x:Nat}{o:Option Ab.Obj}(h0:x≠c0) (h1:x≠c1) (b:x≠tk):(dH B c0 c1 tk C T n).set x o=dH (B.set x o) c0 c1 tk C T n:=by
 unfold dH; rw [set_comm (fun e=>b e.symm),set_comm (fun e=>h1 e.symm),set_comm (fun e=>h0 e.symm)]
theorem Gu (h1:c0≠c1) (b:c0≠tk):(dH B c0 c1 tk C T n).set c0 (some (.cells (cQ.c C')))=dH B c0 c1 tk C' T n:=by
 unfold dH; rw [set_comm (fun e=>b e.symm),set_comm (fun e=>h1 e.symm),af.set_set]
theorem CX (h:c1≠tk):(dH B c0 c1 tk C T n).set c1 (some (.cells T'))=dH B c0 c1 tk C T' n:=by
 unfold dH; rw [set_comm (fun e=>h e.symm),af.set_set]
theorem XB:(dH B c0 c1 tk C T n).set tk (some (.tok 5 n'))=dH B c0 c1 tk C T n':=by unfold dH; rw [af.set_set]
theorem XC (h0:B c0=some (.cells (cQ.c C))) (h1:B c1=some (.cells T)):B.set tk (some (.tok 5 0))=dH B c0 c1 tk C T 0:=by
 unfold dH; rw [af.kD B c0 _ h0,af.kD B c1 _ h1]
end
/-- What holds while the fields are gone through: kz are kept, with the numbers of their arguments' objects. -/
structure lF (H:af) (d:jd) (t:ah) (ids:bY) (X:List Nat) (ny:Bool) (kz:List (Z6×Nat)) (i:Nat) (ch:Bool) (B:af):Prop where
 le:i<=t.aq.l.length
 kl:kz.length<=i
 As:(kz.map (·.1)++(gL d (t.aq.l.drop i) ch).1,(gL d (t.aq.l.drop i) ch).2)=gL d t.aq.l ny
 kh:∀p∈kz,B p.2=some (.arr 10 (p.1.ay.l.map Z7.c))
 rh:∀p∈(t.aq.l.zip ids.fs).drop i,B p.2=some (.arr 10 (p.1.ay.l.map Z7.c))
 e8:∀x,x∉ids.fs->H x≠none->B x=H x
 new:∀p∈kz,p.2∈ids.fs\/H p.2=none
 nd:(kz.map (·.2)++ids.fs.drop i).Nodup
 rP:∀p∈kz,p.2∉X
theorem lF.start {H:af}{d:jd}{t:ah}{ids:bY}{X:List Nat}{ny:Bool}(f:ig H t ids) (hn:ids.fs.Nodup):lF H d t ids X ny [] 0 ny H :=
 ⟨Nat.zero_le _,Nat.zero_le _,by simp,fun p b=>(by cases b),by simpa using f.fs,fun _ _ _=>rfl,fun p b=>(by cases b),by simpa using hn,fun p b=>(by cases b)⟩
section
variable {H:af}{d:jd}{t:ah}{ids:bY}{X:List Nat}{ny ch:Bool}{kz:List (Z6×Nat)}{i:Nat}{B:af}{f:Z6}{k t':Nat}
theorem lF.here (h:lF H d t ids X ny kz i ch B) (hx:(t.aq.l.zip ids.fs)[i]?=some (f,k)):B k=some (.arr 10 (f.ay.l.map Z7.c)) :=
 h.rh (f,k) (List.mem_iff_getElem?.2 ⟨0,by rw [List.getElem?_drop,Nat.add_zero]; exact hx⟩)
theorem Au {l:List Z6}{fs:List Nat}(hx:(l.zip fs)[i]?=some (f,k)):l[i]?=some f/\fs[i]?=some k:=List.getElem?_zip_eq_some.1 hx
theorem lF.next (h:lF H d t ids X ny kz i ch B) (hl:ids.fs.length=t.aq.l.length) (hx:(t.aq.l.zip ids.fs)[i]?=some (f,k)) (ht:B t'=none) (I:∀x∈X,x≠t') (o:Ab.Obj) :
  (∀m,gL d (t.aq.l.drop i) ch=((gL d (t.aq.l.drop (i+1)) m).1,(gL d (t.aq.l.drop (i+1)) m).2)->lF H d t ids X ny kz (i+1) m ((B.set k none).set t' (some o))) /\
  (∀m f',o=.arr 10 (f'.ay.l.map Z7.c)->gL d (t.aq.l.drop i) ch=(f'::(gL d (t.aq.l.drop (i+1)) m).1,(gL d (t.aq.l.drop (i+1)) m).2)->lF H d t ids X ny (kz++[(f',t')]) (i+1) m ((B.set k none).set t' (some o))):=by
 obtain⟨J,hk⟩:=Au hx;have z:i<t.aq.l.length:=(List.getElem?_eq_some_iff.1 J).1;have K:i<ids.fs.length:=by omega
 have L:ids.fs.drop i=k::ids.fs.drop (i+1):=by rw [List.drop_eq_getElem_cons K]; congr 1; exact(List.getElem?_eq_some_iff.1 hk).2
 have hz:(t.aq.l.zip ids.fs).drop i=(f,k)::(t.aq.l.zip ids.fs).drop (i+1):=by
  have M:i<(t.aq.l.zip ids.fs).length:=(List.getElem?_eq_some_iff.1 hx).1;rw [List.drop_eq_getElem_cons M]; congr 1; exact(List.getElem?_eq_some_iff.1 hx).2
 have C:=h.nd;rw [L] at C;have N:k∈ids.fs:=List.mem_of_getElem? hk;have O:=h.here hx;have bu:t'≠k:=fun e=>by rw [e,O] at ht; cases ht
 obtain⟨E,P,y⟩:=List.nodup_append.1 C;obtain⟨n4,F⟩:=List.nodup_cons.1 P;have u:∀p∈kz,p.2≠k/\p.2≠t':=fun p g=>⟨y _ (List.mem_map_of_mem g) _ (.head _),fun e=>by have:=h.kh p g; rw [e,ht] at this; cases this⟩;have Q:∀p∈(t.aq.l.zip ids.fs).drop (i+1),p.2∈ids.fs.drop (i+1):=fun p g=>by
  obtain⟨q,hq⟩:=List.mem_iff_getElem?.1 g;rw [List.getElem?_drop] at hq;obtain⟨_,s⟩:=List.getElem?_zip_eq_some.1 hq;exact List.mem_iff_getElem?.2 ⟨q,by rw [List.getElem?_drop]; exact s⟩
 have rr:∀p∈(t.aq.l.zip ids.fs).drop (i+1),p.2≠k/\p.2≠t'/\B p.2=some (.arr 10 (p.1.ay.l.map Z7.c)):=fun p g=>by
  have hB:=h.rh p (by rw [hz]; exact .tail _ g);exact⟨fun e=>n4 (e▸Q p g),(fun e=>by rw [e,ht] at hB; cases hB),hB⟩
 have v:∀x,x≠k->x≠t'->((B.set k none).set t' (some o)) x=B x:=fun x h1 s=>by rw [af.aQ _ _ s,af.aQ _ _ h1]
 have G:∀x,x∉ids.fs->H x≠none->((B.set k none).set t' (some o)) x=H x:=fun x h1 s=>by
  have hB:=h.e8 x h1 s;rw [v x (fun e=>h1 (e▸N)) (fun e=>s (by rw [<- hB,e,ht]))]; exact hB
 have R:t'∈ids.fs\/H t'=none:=by
  by_cases c1:t'∈ids.fs
  ·exact .inl c1
  refine .inr ?_;cases e:H t' with
  | none=>rfl
  | some o'=>have:=h.e8 t' c1 (by rw [e]; simp); rw [ht,e] at this; cases this
 have S:(kz.map (·.2)++ids.fs.drop (i+1)).Nodup:=List.nodup_append.2 ⟨E,F,fun a j b r=>y a j b (.tail _ r)⟩;have w:=h.As;refine⟨fun m e=>⟨z,Nat.le_succ_of_le h.kl,by rw [e] at w; exact w,fun p g=>by rw [v _ (u p g).1 (u p g).2]; exact h.kh p g,fun p g=>by rw [v _ (rr p g).1 (rr p g).2.1]; exact(rr p g).2.2,G,h.new,S,h.rP⟩,
  fun m f' U e=>⟨z,by rw [List.length_append]; exact Nat.succ_le_succ h.kl,by rw [e] at w; simpa using w,fun p g=>?_,fun p g=>by rw [v _ (rr p g).1 (rr p g).2.1]; exact(rr p g).2.2,G,fun p g=>?_, ?_,fun p g=>?_⟩⟩
 ·rcases List.mem_append.1 g with g|g
  ·rw [v _ (u p g).1 (u p g).2]; exact h.kh p g
  rw [List.mem_singleton.1 g,af.aT,U]
 ·rcases List.mem_append.1 g with g|g
  ·exact h.new p g
  rw [List.mem_singleton.1 g]; exact R
 ·rw [List.map_append];refine List.nodup_append.2 ⟨List.nodup_append.2 ⟨E,by simp,fun a j b r=>?_⟩,F,fun a j b r=>?_⟩
  ·obtain⟨p,g,rfl⟩:=List.mem_map.1 j;simp only [List.map_cons,List.map_nil,List.mem_singleton] at r;rw [r]; exact(u p g).2
  rcases List.mem_append.1 j with j|j
  ·exact y a j b (.tail _ r)
  simp only [List.map_cons,List.map_nil,List.mem_singleton] at j;intro e
  -- a fresh number is none of those that are left
  obtain⟨q,hq⟩:=List.mem_iff_getElem?.1 r;rw [List.getElem?_drop] at hq;have W:i+1+q<t.aq.l.length:=by have:=(List.getElem?_eq_some_iff.1 hq).1; omega
  have Y:(t.aq.l.zip ids.fs)[i+1+q]?=some (t.aq.l[i+1+q],b):=List.getElem?_zip_eq_some.2 ⟨List.getElem?_eq_getElem W,hq⟩;have:=(rr _ (List.mem_iff_getElem?.2 ⟨q,by rw [List.getElem?_drop]; exact Y⟩)).2.1;exact this (by rw [<- e,j])
 rcases List.mem_append.1 g with g|g
 ·exact h.rP p g
 rw [List.mem_singleton.1 g]; exact fun hm=>I _ hm rfl
end
section
variable {B:af}{c0 c1 tk t id:Nat}{C C':cQ}{T T':List D}{n n':Nat}{a X:Option Ab.Obj}
theorem CY (h:dH B c0 c1 tk C T n t=none) (j:c0≠c1) (k:c0≠tk) (l:c1≠tk):t≠c0/\t≠c1/\t≠tk/\B t=none:=by
 have b:t≠c0:=fun e=>by rw [e,qg j k] at h; cases h
 have f:t≠c1:=fun e=>by rw [e,je l] at h; cases h
 have g:t≠tk:=fun e=>by rw [e,Gt] at h; cases h
 exact⟨b,f,g,by rwa [oQ b f g] at h⟩
theorem XD (b:t≠id):((B.set t a).set id none).set t X=(B.set id none).set t X:=by rw [set_comm (h:=B) b,af.set_set]
theorem Gv (b:t≠id) (i0:id≠c0) (i1:id≠c1) (i2:id≠tk) (t0:t≠c0) (t1:t≠c1) (t2:t≠tk):((dH (B.set t a) c0 c1 tk C T n).set id none).set t X=dH ((B.set id none).set t X) c0 c1 tk C T n:=by
 rw [yd i0 i1 i2,yd t0 t1 t2,XD b]
theorem Nv (b:c0≠c1) (f:c0≠tk) (g:t≠id) (i0:id≠c0) (i1:id≠c1) (i2:id≠tk) (t0:t≠c0) (t1:t≠c1) (t2:t≠tk) :
  ((((dH (B.set t a) c0 c1 tk C T n).set id none).set t X).set c0 (some (.cells (cQ.c C'))))=dH ((B.set id none).set t X) c0 c1 tk C' T n:=by
 rw [Gv g i0 i1 i2 t0 t1 t2,Gu b f]
end
/-- Objects that belong to a definition, among those that lie in S or are new; X are the others at hand. -/
structure ye (H:af) (S X:List Nat) (O:List (Nat×Ab.Obj)) (B:af):Prop where
 has:∀p∈O,B p.1=some p.2
 nd:(O.map (·.1)).Nodup
 rP:∀p∈O,p.1∉X
 new:∀p∈O,p.1∈S\/H p.1=none
 e8:∀x,x∉S->H x≠none->B x=H x
theorem ye.step {H:af}{S X:List Nat}{A C:List (Nat×Ab.Obj)}{id t:Nat}{o o':Ab.Obj}{B:af}(h:ye H S X (A++(id,o)::C) B) (ht:B t=none) (w:∀x∈X,x≠t):ye H S X (A++(t,o')::C) ((B.set id none).set t (some o')):=by
 have hid:B id=some o:=h.has (id,o) (by simp);have r:=h.nd;rw [List.map_append,List.map_cons] at r;obtain⟨y,z,s⟩:=List.nodup_append.1 r;obtain⟨n4,E⟩:=List.nodup_cons.1 z;have ne:∀p,p∈A\/p∈C->p.1≠id/\p.1≠t:=fun p g=>by
  have j:B p.1=some p.2:=h.has p (by rcases g with g|g<;>simp [g]);refine⟨fun e=>?_,fun e=>by rw [e,ht] at j; cases j⟩;rcases g with g|g
  ·exact s _ (List.mem_map_of_mem g) _ (.head _) e
  have hm:=List.mem_map_of_mem (f:=fun q:Nat×Ab.Obj=>q.1) g;rw [e] at hm; exact n4 hm
 have u:∀x,x≠id->x≠t->((B.set id none).set t (some o')) x=B x:=fun x h1 k=>by rw [af.aQ _ _ k,af.aQ _ _ h1]
 have cK:∀p,p∈A++(t,o')::C->p=(t,o')\/p∈A\/p∈C:=fun p g=>by
  rcases List.mem_append.1 g with g|g
  ·exact .inr (.inl g)
  rcases List.mem_cons.1 g with g|g
  ·exact .inl g
  exact .inr (.inr g)
 have l:∀p,p∈A\/p∈C->p∈A++(id,o)::C:=fun p g=>by rcases g with g|g<;>simp [g]
 refine⟨fun p g=>?_, ?_,fun p g=>?_,fun p g=>?_,fun x h1 k=>?_⟩
 ·rcases cK p g with rfl|g
  ·exact af.aT _ _ _
  rw [u _ (ne p g).1 (ne p g).2]; exact h.has p (l p g)
 ·rw [List.map_append,List.map_cons];refine List.nodup_append.2 ⟨y,List.nodup_cons.2 ⟨fun hm=>?_,E⟩,fun a v b j=>?_⟩
  ·obtain⟨p,g,e⟩:=List.mem_map.1 hm;exact(ne p (.inr g)).2 e
  rcases List.mem_cons.1 j with j|j
  ·obtain⟨p,g,rfl⟩:=List.mem_map.1 v;rw [j]; exact(ne p (.inl g)).2
  exact s a v b (.tail _ j)
 ·rcases cK p g with rfl|g
  ·exact fun hm=>w _ hm rfl
  exact h.rP p (l p g)
 ·rcases cK p g with rfl|g
  ·by_cases c1:t∈S
   ·exact .inl c1
   refine .inr ?_;cases e:H t with
   | none=>rfl
   | some q=>have:=h.e8 t c1 (by rw [e]; simp); rw [ht,e] at this; cases this
  exact h.new p (l p g)
 have hB:=h.e8 x h1 k;have F:x≠id:=fun e=>by
  rcases h.new (id,o) (by simp) with m|m
  ·exact h1 (e▸m)
  exact k (e▸m)
 have G:x≠t:=fun e=>k (by rw [<- hB,e,ht]);rw [u x F G]; exact hB
noncomputable def jf (f:Z6):Ab.Obj:=.arr 10 (f.ay.l.map Z7.c)
theorem CZ (kz:List (Z6×Nat)):(kz.map (·.1)).zip (kz.map (·.2))=kz:=by
 induction kz with
 | nil=>rfl
 | cons a r b=>simp [b]
/-- What the heap holds of a definition, as a list. -/
noncomputable def fE (t:ah) (i:bY):List (Nat×Ab.Obj):=(i.ip,.arr 1 (t.aM.l.map aG))::(i.im,.arr 2 (t.ax.l.map Z8.c))::(i.ii,.arr 10 (t.aF.l.map Z7.c))::(t.aq.l.zip i.fs).map fun p=>(p.2,jf p.1)
theorem lF.done {H:af}{d:jd}{t:ah}{ids:bY}{X:List Nat}{ny ch:Bool}{kz:List (Z6×Nat)}{B:af}(h:lF H d t ids X ny kz t.aq.l.length ch B) (f:ig H t ids) (hn:ids.all.Nodup) (j:∀x∈ids.all,x∉X) :
  (kz.map (·.1),ch)=gL d t.aq.l ny/\ye H ids.all X ((ids.ip,.arr 1 (t.aM.l.map aG))::(ids.im,.arr 2 (t.ax.l.map Z8.c))::(ids.ii,.arr 10 (t.aF.l.map Z7.c))::kz.map fun p=>(p.2,jf p.1)) B:=by
 have hm:=h.As;rw [List.drop_length] at hm;simp only [gL,List.append_nil] at hm;have g:ids.all=ids.ip::ids.im::ids.ii::ids.fs:=rfl;rw [g] at hn;simp only [List.nodup_cons,List.mem_cons,not_or] at hn;obtain⟨⟨a1,a2,a3⟩,⟨s,m⟩,c1,c2⟩:=hn;have o1:=h.e8 _ a3 (by rw [f.ip]; simp);have o2:=h.e8 _ m (by rw [f.im]; simp);have r:=h.e8 _ c1 (by rw [f.ii]; simp);rw [f.ip] at o1; rw [f.im] at o2; rw [f.ii] at r
 have k:∀p∈kz,p.2≠ids.ip/\p.2≠ids.im/\p.2≠ids.ii:=fun p b=>by
  have u:=h.kh p b;rcases h.new p b with h1|h1
  ·exact⟨fun e=>a3 (e▸h1),fun e=>m (e▸h1),fun e=>c1 (e▸h1)⟩
  exact⟨(fun e=>by rw [e,f.ip] at h1; cases h1),(fun e=>by rw [e,f.im] at h1; cases h1),(fun e=>by rw [e,f.ii] at h1; cases h1)⟩
 refine⟨hm,fun p b=>?_, ?_,fun p b=>?_,fun p b=>?_,fun x hx=>h.e8 x fun hm=>hx (by rw [g]; simp [hm])⟩
 ·simp only [List.mem_cons,List.mem_map] at b;rcases b with rfl|rfl|rfl|⟨q,hq,rfl⟩
  ·exact o1
  ·exact o2
  ·exact r
  exact h.kh q hq
 ·have hk:=(List.nodup_append.1 h.nd).1;simp only [List.map_cons,List.map_map,List.nodup_cons,List.mem_cons,List.mem_map,not_or,Function.comp_apply];refine⟨⟨a1,a2,fun⟨q,hq,e⟩=>(k q hq).1 e⟩,⟨s,fun⟨q,hq,e⟩=>(k q hq).2.1 e⟩,fun⟨q,hq,e⟩=>(k q hq).2.2 e,hk⟩
 ·simp only [List.mem_cons,List.mem_map] at b;rcases b with rfl|rfl|rfl|⟨q,hq,rfl⟩
  ·exact j _ (by rw [g]; simp)
  ·exact j _ (by rw [g]; simp)
  ·exact j _ (by rw [g]; simp)
  exact h.rP q hq
 simp only [List.mem_cons,List.mem_map] at b;rcases b with rfl|rfl|rfl|⟨q,hq,rfl⟩
 ·exact .inl (by rw [g]; simp)
 ·exact .inl (by rw [g]; simp)
 ·exact .inl (by rw [g]; simp)
 rcases h.new q hq with h1|h1
 ·exact .inl (by rw [g]; simp [h1])
 exact .inr h1
noncomputable def oS (c:cQ) (t:ah):Sl Z7×Bool×cQ:=lE ⟨c.Fd,(gL c.Fd t.aq.l c.gK).2⟩ t.aF
noncomputable def nA (c:cQ) (t:ah):Sl Z8:=bif decide (t.ai=(3:Int)) then⟨t.ax.nl,t.ax.l.filter fun x=>!nx x (oS c t).2.2⟩ else t.ax
noncomputable def yf (c:cQ) (t:ah):Sl Bs:=⟨t.aM.nl,t.aM.l.filter fun x=>!fW (oS c t).2.2 x⟩
noncomputable def jU (c:cQ) (t:ah):Bool:=(oS c t).2.2.gK||decide ((((nA c t).l.length:Nat):Int)+(((yf c t).l.length:Nat):Int)<((t.ax.l.length:Nat):Int)+((t.aM.l.length:Nat):Int))
noncomputable def vF (c:cQ) (t:ah):List Z6:=(gL c.Fd t.aq.l c.gK).1
noncomputable def nC (c:cQ) (t:ah):ah:=ah.mk t.ai t.aa (yf c t) t.bf ⟨(vF c t).isEmpty,vF c t⟩ (nA c t) (oS c t).1
noncomputable def oU (c:cQ) (t:ah):Bool :=
 bif (bif decide (t.ai=(1:Int)) then decide (t.ai=(1:Int)) else decide (t.ai=(2:Int))) then decide ((0:Int)<(((vF c t).length:Nat):Int)) else
 bif (bif decide (t.ai=(3:Int)) then decide (t.ai=(3:Int)) else decide (t.ai=(4:Int))) then decide ((0:Int)<(((nA c t).l.length:Nat):Int)) else
 (!(oS c t).2.1)&&decide ((0:Int)<(((oS c t).1.l.length:Nat):Int))
structure yg (H h':af) (c0 c1:Nat) (ids:bY) (c':cQ) (t':ah):Prop where
 out:∃jg:bY,h' c0=some (.cells (cQ.c c'))/\h' c1=some (.cells (cT.c (fm t' jg)))/\ig h' t' jg/\(c0::c1::jg.all).Nodup/\(∀x∈jg.all,x∈ids.all\/H x=none)
 e8:∀x,x≠c0->x≠c1->x∉ids.all->H x≠none->h' x=H x
theorem Nw {α:Type}{z:Nat}{kz:List α}{x:α}(h:(kz.length+1)*z<=cA/\kz.length+1<=cA):bh z (⟨kz.isEmpty,kz⟩:Sl α) (⟨false,[x]⟩:Sl α)=some ⟨(kz++[x]).isEmpty,kz++[x]⟩:=by
 unfold bh;rw [if_pos (by simpa using h)];simp
theorem yg.of {H B:af}{c0 c1 tk:Nat}{ids:bY}{c':cQ}{t':ah}{kz:List (Z6×Nat)}{n ip im ii:Nat}{nl:Bool}(ht:t'.aq=⟨nl,kz.map (·.1)⟩) (g:c0≠c1) (m:c0≠tk) (q:c1≠tk) (hk:H tk=none)
  (h:ye H ids.all [c0,c1,tk] ((ip,.arr 1 (t'.aM.l.map aG))::(im,.arr 2 (t'.ax.l.map Z8.c))::(ii,.arr 10 (t'.aF.l.map Z7.c))::kz.map fun p=>(p.2,jf p.1)) B) :
  yg H (dH B c0 c1 tk c' (cT.c (fm t' ⟨ip,im,ii,kz.map (·.2)⟩)) n) c0 c1 ids c' t':=by
 have ne:∀p∈((ip,Ab.Obj.arr 1 (t'.aM.l.map aG))::(im,.arr 2 (t'.ax.l.map Z8.c))::(ii,.arr 10 (t'.aF.l.map Z7.c))::kz.map fun p=>(p.2,jf p.1)),p.1≠c0/\p.1≠c1/\p.1≠tk:=fun p f=>by
  have:=h.rP p f
  simpa using this
 have at_:∀p∈((ip,Ab.Obj.arr 1 (t'.aM.l.map aG))::(im,.arr 2 (t'.ax.l.map Z8.c))::(ii,.arr 10 (t'.aF.l.map Z7.c))::kz.map fun p=>(p.2,jf p.1)),dH B c0 c1 tk c' (cT.c (fm t' ⟨ip,im,ii,kz.map (·.2)⟩)) n p.1=some p.2:=fun p f=>by
  obtain⟨a,b,c⟩:=ne p f;rw [oQ a b c]; exact h.has p f
 have j:(bY.mk ip im ii (kz.map (·.2))).all=(((ip,Ab.Obj.arr 1 (t'.aM.l.map aG))::(im,.arr 2 (t'.ax.l.map Z8.c))::(ii,.arr 10 (t'.aF.l.map Z7.c))::kz.map fun p=>(p.2,jf p.1)).map (·.1)):=by
  simp [bY.all]
 have hz:t'.aq.l.zip (kz.map (·.2))=kz:=by rw [ht]; exact CZ kz
 refine⟨⟨⟨ip,im,ii,kz.map (·.2)⟩,qg g m,je q,⟨by rw [ht]; simp,at_ (ip,_) (by simp),at_ (im,_) (by simp),at_ (ii,_) (by simp),fun p f=>?_⟩, ?_,fun x hx=>?_⟩,fun x h0 h1 r k=>?_⟩
 ·dsimp only at f;rw [hz] at f;exact at_ (p.2,jf p.1) (by simp only [List.mem_cons,List.mem_map]; exact .inr (.inr (.inr ⟨p,f,rfl⟩)))
 ·rw [j];refine List.nodup_cons.2 ⟨fun hm=>?_,List.nodup_cons.2 ⟨fun hm=>?_,h.nd⟩⟩
  ·rcases List.mem_cons.1 hm with e|hm
   ·exact g e
   obtain⟨p,f,e⟩:=List.mem_map.1 hm;exact(ne p f).1 e
  obtain⟨p,f,e⟩:=List.mem_map.1 hm;exact(ne p f).2.1 e
 ·rw [j] at hx;obtain⟨p,f,rfl⟩:=List.mem_map.1 hx;exact h.new p f
 have s:x≠tk:=fun e=>k (e▸hk);rw [oQ h0 h1 s]; exact h.e8 x r k
theorem C0 {a b c t:Nat}(h1:t≠a) (f:t≠b) (g:t≠c):∀x∈[a,b,c],x≠t:=by
 intro x hx e;simp only [List.mem_cons,List.not_mem_nil,or_false] at hx;rcases hx with h|h|h
 ·exact h1 (e.symm.trans h)
 ·exact f (e.symm.trans h)
 exact g (e.symm.trans h)
noncomputable def aC (t:ah) (P F M b:D):List D:=cT.c ⟨t.ai,t.aa,P,Sl.d 2 aA.c none t.bf,F,M,b⟩
theorem XE (c:cQ) (t:ah):(nA c t).l.length<=t.ax.l.length:=by
 unfold nA;cases decide (t.ai=(3:Int))
 ·exact Nat.le_refl _
 exact List.length_filter_le _ _
theorem XF {c:cQ}{t:ah}{ids:bY}{c0 c1:Nat}{H:af}(hB:t.aq.l.length<=1000000) (a_:t.ax.l.length<=1000000) (a':t.aM.l.length<=1000000) (b7:H c0=some (.cells (cQ.c c))) (aL:H c1=some (.cells (cT.c (fm t ids)))) (G:ig H t ids) (ba:(c0::c1::ids.all).Nodup) :
  At 43 [.d (.ptr c0 0),.d (.ptr c1 0)] H fun v h'=>v=.a (.d (.bool (oU c t)))/\yg H h' c0 c1 ids ⟨c.Fd,jU c t⟩ (nC c t):=by
 obtain⟨m0,m1⟩:=List.nodup_cons.1 ba;obtain⟨m1,aP⟩:=List.nodup_cons.1 m1;have j:c0≠c1:=fun e=>m0 (e▸.head _);have bb:ids.fs.Nodup:=by have:=aP; simp only [bY.all,List.nodup_cons] at this; exact this.2.2.2
 refine AC.oW 149 [.tmp 4] Tryz.call43 Tryz.func43 ?_;refine ag.tok 5 fun tk bu=>?_;have u:c0≠tk:=fun e=>by rw [<- e,b7] at bu; cases bu
 have g:c1≠tk:=fun e=>by rw [<- e,aL] at bu; cases bu
 have bc:∀x∈ids.all,H x≠none:=fun x hx=>by
  simp only [bY.all,List.mem_cons] at hx;rcases hx with rfl|rfl|rfl|hx
  ·rw [G.ip];simp
  ·rw [G.im];simp
  ·rw [G.ii];simp
  obtain⟨q,hq⟩:=List.mem_iff_getElem?.1 hx;have bd:q<t.aq.l.length:=by have:=(List.getElem?_eq_some_iff.1 hq).1; rw [G.len] at this; exact this
  rw [G.fs (t.aq.l[q],x) (List.mem_iff_getElem?.2 ⟨q,List.getElem?_zip_eq_some.2 ⟨List.getElem?_eq_getElem bd,hq⟩⟩)];simp
 have O:∀x∈ids.all,x≠c0/\x≠c1/\x≠tk:=fun x hx=>⟨fun e=>m0 (.tail _ (e▸hx)),fun e=>m1 (e▸hx),fun e=>bc x hx (e▸bu)⟩;have be:∀x∈ids.all,x∉[c0,c1,tk]:=fun x hx=>by obtain⟨a,b,d⟩:=O x hx; simp [a,b,d]
 refine ag.j7 (h':=dH H c0 c1 tk c (cT.c (fm t ids)) 0) (XC b7 aL) ?_;refine Y7 ?_;refine ag.fe 5 5 tk rfl Gt ?_;refine aO (tl [1,2]) (fun(z:List (Z6×Nat)×Bool×af)=>[(5,.a (.d (Sl.d 5 eu (some tk) ⟨z.1.isEmpty,z.1⟩)))]) (fun z=>dH z.2.2 c0 c1 tk ⟨c.Fd,z.2.1⟩ (cT.c (fm t ids)) z.1.length) (fun z=>lF H c.Fd t ids [c0,c1,tk] c.gK z.1 t.aq.l.length z.2.1 z.2.2) ?_ ?_
 ·intro bG bg;refine Y4 ?_;refine s0 (eD (TK rfl) rfl rfl (je g) rfl) rfl ?_;refine sLen (f:=eu) (s:=⟨t.aq.nl,t.aq.l.zip ids.fs⟩) (TK rfl) rfl rfl rfl rfl fun bH=>?_;refine Y3 ?_
  refine bz (tl [1,2,14,15]) (fun(z:List (Z6×Nat)×Nat×Bool×af)=>[(5,.a (.d (Sl.d 5 eu (some tk) ⟨z.1.isEmpty,z.1⟩))),(16,vi z.2.1)]) (fun z=>dH z.2.2.2 c0 c1 tk ⟨c.Fd,z.2.2.1⟩ (cT.c (fm t ids)) z.1.length) (fun z=>t.aq.l.length-z.2.1) (fun z=>lF H c.Fd t ids [c0,c1,tk] c.gK z.1 z.2.1 z.2.2.1 z.2.2.2) ([],0,c.gK,H) (lF.start G bb) wA ?_;rintro ⟨kz,i,ch,B⟩ F bJ bh;dsimp only at F
  have bK:(t.aq.l.zip ids.fs).length=t.aq.l.length:=by rw [List.length_zip,G.len,Nat.min_self]
  refine Y3 ?_;refine ar fun bL bi=>?_;refine ag.cond rfl (fun hc=>?_) (fun hc=>?_)
  ·dsimp only at hc;have hi:i<(t.aq.l.zip ids.fs).length:=by have:=oD hc; omega
   obtain⟨⟨f,k⟩,hx⟩:∃p,(t.aq.l.zip ids.fs)[i]?=some p:=⟨_,List.getElem?_eq_getElem hi⟩;have bj:k∈ids.all:=by
    have:=List.mem_of_getElem? (List.getElem?_zip_eq_some.1 hx).2;simp [bY.all,this]
   obtain⟨ad,aR,k2⟩:=O k bj;have bk:(t.aq.l.drop i)=f::t.aq.l.drop (i+1):=by
    have h1:=(List.getElem?_zip_eq_some.1 hx).1;have bl:=(List.getElem?_eq_some_iff.1 h1).1;rw [List.drop_eq_getElem_cons bl];congr 1;exact(List.getElem?_eq_some_iff.1 h1).2
   refine sk bi (aO (tl [1,2,14,15,16]) (fun(z:List (Z6×Nat)×Bool×af)=>[(5,.a (.d (Sl.d 5 eu (some tk) ⟨z.1.isEmpty,z.1⟩)))]) (fun z=>dH z.2.2 c0 c1 tk ⟨c.Fd,z.2.1⟩ (cT.c (fm t ids)) z.1.length) (fun z=>lF H c.Fd t ids [c0,c1,tk] c.gK z.1 (i+1) z.2.1 z.2.2) ?_ ?_)
   ·intro bM aS;refine Y2 ?_;refine s0 (A5 (f:=eu) (n:=i) (s:=⟨t.aq.nl,t.aq.l.zip ids.fs⟩) (TK rfl) rfl (TK rfl) rfl rfl rfl hx) rfl ?_;refine Y7 ?_;refine ag.sw 10 fun t' bm=>?_;obtain⟨t0,t1,t2,I⟩:=CY bm j u g;have I:B t'=none:=I;have bn:∀x∈[c0,c1,tk],x≠t':=C0 t0 t1 t2;have ae:t'≠k:=fun e=>by have:=F.here hx; rw [<- e,I] at this; cases this
    refine ag.j7 (h':=dH (B.set t' (some (.arr 10 []))) c0 c1 tk ⟨c.Fd,ch⟩ (cT.c (fm t ids)) kz.length) (yd t0 t1 t2) ?_;refine Y4 ?_
    refine sH (bV rfl rfl (Nu (c:=⟨c.Fd,ch⟩) (s:=f.ay) (id:=k) (t:=t') (qg j u) (by rw [oQ ad aR k2,af.aQ _ _ (fun e=>ae e.symm)]; exact F.here hx) (by rw [oQ t0 t1 t2]; exact af.aT _ _ _) (fun e=>ad e.symm) (fun e=>t0 e.symm) ae)) rfl ?_;generalize J:lE ⟨c.Fd,ch⟩ f.ay=y;have aj:y.2.2=⟨c.Fd,y.2.2.gK⟩:=by rw [<- J]; rfl
    refine aK.fH (h':=dH ((B.set k none).set t' (some (.arr 10 (y.1.l.map Z7.c)))) c0 c1 tk ⟨c.Fd,y.2.2.gK⟩ (cT.c (fm t ids)) kz.length) (by rw [Nv j u ae ad aR k2 t0 t1 t2,<- aj]) ?_;refine Y7 ?_;refine ar fun bN bo=>Y5 ?_;refine gC rfl rfl (fun hC=>v_ (k:=31) rfl (pe (TK rfl) rfl rfl (TK rfl) rfl rfl)) rfl ?_
    refine gC rfl rfl (fun hC=>v_ (k:=32) rfl (nL (TK rfl) rfl rfl rfl rfl)) rfl ?_;refine fJ 30 33 rfl rfl (fun hC=>eE rfl rfl (Ar (a0:=⟨c.Fd,y.2.2.gK⟩) (a1:=f.av.aa) rfl _ (qg j u))) ?_;refine Y2 ?_;have aU:=F.next G.len hx I bn (.arr 10 (y.1.l.map Z7.c))
    have R:gL c.Fd (t.aq.l.drop i) ch=bif y.2.1||fW ⟨c.Fd,y.2.2.gK⟩ f.av.aa then gL c.Fd (t.aq.l.drop (i+1)) true
      else(Z6.mk f.aa y.1 f.av f.bf::(gL c.Fd (t.aq.l.drop (i+1)) y.2.2.gK).1,(gL c.Fd (t.aq.l.drop (i+1)) y.2.2.gK).2):=by
     rw [bk,gL,J];rfl
    refine ag.cond rfl (fun w=>?_) (fun w=>?_)
    ·skip;rw [w,cond_true] at R;refine Y4 ?_;refine dB (gw (TK rfl) rfl rfl (qg j u) rfl (by repeat (first|exact bE.zero|apply bE.succ))) rfl rfl ?_;refine aK.fH (h':=dH ((B.set k none).set t' (some (.arr 10 (y.1.l.map Z7.c)))) c0 c1 tk ⟨c.Fd,true⟩ (cT.c (fm t ids)) kz.length) (Gu (C':=⟨c.Fd,true⟩) j u) ?_;refine Y1 ?_;refine ag.exit ?_
     exact aS _ (kz,true,(B.set k none).set t' (some (.arr 10 (y.1.l.map Z7.c)))) wA (aU.1 true R)
    skip;rw [w,cond_false] at R;refine sk bo (Y4 ?_);have bO:=F.kl;refine sH (jy (f:=eu) (s:=⟨kz.isEmpty,kz⟩) (r:=⟨false,[(Z6.mk f.aa y.1 f.av f.bf,t')]⟩) (TK rfl) rfl (TK rfl) (TK rfl) ⟨_,rfl⟩ rfl rfl (by decide) rfl rfl rfl rfl Gt rfl (Nw (z:=104) (by unfold cA; omega))) rfl ?_
    refine aK.fH (h':=dH ((B.set k none).set t' (some (.arr 10 (y.1.l.map Z7.c)))) c0 c1 tk ⟨c.Fd,y.2.2.gK⟩ (cT.c (fm t ids)) (kz++[(Z6.mk f.aa y.1 f.av f.bf,t')]).length) XB ?_;refine Y2 ?_;exact aS _ (kz++[(Z6.mk f.aa y.1 f.av f.bf,t')],y.2.2.gK,(B.set k none).set t' (some (.arr 10 (y.1.l.map Z7.c)))) wA (aU.2 y.2.2.gK (Z6.mk f.aa y.1 f.av f.bf) rfl R)
   rintro ⟨bp,bq,br⟩ aV;dsimp only at aV;refine Y1 ?_;refine s0 (qn rfl rfl (by dsimp only; omega) (by dsimp only; omega)) rfl ?_;refine Y2 ?_;exact bh _ (bp,i+1,bq,br) wA aV (by show t.aq.l.length-(i+1)<t.aq.l.length-i; omega)
  dsimp only at hc;have hi:¬i<(t.aq.l.zip ids.fs).length:=by have:=of_decide_eq_false hc; omega
  have bs:i=t.aq.l.length:=by have:=F.le; omega
  refine ag.exit ?_;exact bg _ (kz,ch,B) wA (bs▸F)
 rintro ⟨kz,ch,B⟩ F;dsimp only at F;obtain⟨hm,hO⟩:=F.done G aP be;have aW:vF c t=kz.map (·.1):=by unfold vF; rw [<- hm]
 have aX:oS c t=lE ⟨c.Fd,ch⟩ t.aF:=by unfold oS; rw [<- hm]
 refine Y5 ?_;refine aK.eF 45 rfl ?_;refine dB (gw (TK rfl) rfl rfl (je g) rfl (by repeat (first|exact bE.zero|apply bE.succ))) rfl rfl ?_
 refine aK.fH (h':=dH B c0 c1 tk ⟨c.Fd,ch⟩ (aC t (bP 1 ids.ip t.aM.nl t.aM.l.length) (Sl.d 5 eu none ⟨kz.isEmpty,kz⟩) (bP 2 ids.im t.ax.nl t.ax.l.length) (bP 10 ids.ii t.aF.nl t.aF.l.length)) kz.length) (CX g) ?_;refine Y4 ?_;refine ag.sw 10 fun t3 bt=>?_;obtain⟨a0,a1,ab,I⟩:=CY bt j u g;have I:B t3=none:=I
 obtain⟨i0,i1,i2⟩:=O ids.ii (by simp [bY.all]);have ak:B ids.ii=some (.arr 10 (t.aF.l.map Z7.c)):=hO.has (ids.ii,_) (by simp);have al:t3≠ids.ii:=fun e=>by rw [<- e,I] at ak; cases ak
 refine ag.j7 (h':=dH (B.set t3 (some (.arr 10 []))) c0 c1 tk ⟨c.Fd,ch⟩ (aC t (bP 1 ids.ip t.aM.nl t.aM.l.length) (Sl.d 5 eu none ⟨kz.isEmpty,kz⟩) (bP 2 ids.im t.ax.nl t.ax.l.length) (bP 10 ids.ii t.aF.nl t.aF.l.length)) kz.length) (yd a0 a1 ab) ?_;refine Y6 ?_;refine aN.s0 (eD (TK rfl) rfl rfl (je g) rfl) rfl ?_
 refine aN.sH (bV rfl rfl (Nu (c:=⟨c.Fd,ch⟩) (s:=t.aF) (id:=ids.ii) (t:=t3) (qg j u) (by rw [oQ i0 i1 i2,af.aQ _ _ (fun e=>al e.symm)]; exact ak) (by rw [oQ a0 a1 ab]; exact af.aT _ _ _) (fun e=>i0 e.symm) (fun e=>a0 e.symm) al)) rfl ?_;rw [<- aX];generalize J:oS c t=y;have aj:y.2.2=⟨c.Fd,y.2.2.gK⟩:=by rw [<- J,aX]; rfl
 refine aN.fH (h':=dH ((B.set ids.ii none).set t3 (some (.arr 10 (y.1.l.map Z7.c)))) c0 c1 tk y.2.2 (aC t (bP 1 ids.ip t.aM.nl t.aM.l.length) (Sl.d 5 eu none ⟨kz.isEmpty,kz⟩) (bP 2 ids.im t.ax.nl t.ax.l.length) (bP 10 ids.ii t.aF.nl t.aF.l.length)) kz.length) (Nv j u al i0 i1 i2 a0 a1 ab) ?_;refine Y5 ?_
 refine aN.dB (gw (TK rfl) rfl rfl (je g) rfl (by repeat (first|exact bE.zero|apply bE.succ))) rfl rfl ?_
 refine aN.fH (h':=dH ((B.set ids.ii none).set t3 (some (.arr 10 (y.1.l.map Z7.c)))) c0 c1 tk y.2.2 (aC t (bP 1 ids.ip t.aM.nl t.aM.l.length) (Sl.d 5 eu none ⟨kz.isEmpty,kz⟩) (bP 2 ids.im t.ax.nl t.ax.l.length) (bP 10 t3 y.1.nl y.1.l.length)) kz.length) (CX g) ?_;refine Y2 ?_;have S:=hO.step (A:=[_,_]) I (C0 a0 a1 ab) (o':=.arr 10 (y.1.l.map Z7.c))
 generalize (B.set ids.ii none).set t3 (some (.arr 10 (y.1.l.map Z7.c)))=L at S ⊢;refine Y4 ?_;refine aN.s0 (eD (TK rfl) rfl rfl (je g) rfl) rfl ?_;refine aN.s0 (sx (k:=2) (id:=ids.im) (nl:=t.ax.nl) (m:=t.ax.l.length) (TK rfl) rfl rfl rfl) rfl ?_;refine Y3 ?_;refine aN.s0 (eD (TK rfl) rfl rfl (je g) rfl) rfl ?_
 refine aN.s0 (sx (k:=1) (id:=ids.ip) (nl:=t.aM.nl) (m:=t.aM.l.length) (TK rfl) rfl rfl rfl) rfl ?_;refine aN.s0 (qn rfl rfl (by omega) (by omega)) rfl ?_;refine Y2 ?_;have aY:nA c t=bif decide (t.ai=(3:Int)) then⟨t.ax.nl,t.ax.l.filter fun x=>!nx x y.2.2⟩ else t.ax:=by unfold nA; rw [J]
 have am:yf c t=⟨t.aM.nl,t.aM.l.filter fun x=>!fW y.2.2 x⟩:=by unfold yf; rw [J]
 refine aO (tl [1,2,9,10]) (fun(z:Sl Z8×Nat×af)=>[]) (fun z=>dH z.2.2 c0 c1 tk y.2.2 (aC t (bP 1 ids.ip t.aM.nl t.aM.l.length) (Sl.d 5 eu none ⟨kz.isEmpty,kz⟩) (bP 2 z.2.1 z.1.nl z.1.l.length) (bP 10 t3 y.1.nl y.1.l.length)) kz.length)
  (fun z=>z.1=nA c t/\ye H ids.all [c0,c1,tk] ((ids.ip,.arr 1 (t.aM.l.map aG))::(z.2.1,.arr 2 (z.1.l.map Z8.c))::(t3,.arr 10 (y.1.l.map Z7.c))::kz.map fun p=>(p.2,jf p.1)) z.2.2) ?_ ?_
 ·intro bQ aZ;refine Y4 ?_;refine s0 (eD (TK rfl) rfl rfl (je g) rfl) rfl ?_;refine Y2 ?_;refine ag.cond rfl (fun w=>?_) (fun w=>?_)
  ·have K:(⟨t.ax.nl,t.ax.l.filter fun x=>!nx x y.2.2⟩:Sl Z8)=nA c t:=by rw [aY,w]; rfl
   refine ag.sw 2 fun t4 bv=>?_;obtain⟨U,W,X,a2⟩:=CY bv j u g;obtain⟨j0,a3,a4⟩:=O ids.im (by simp [bY.all]);have ao:L ids.im=some (.arr 2 (t.ax.l.map Z8.c)):=S.has (ids.im,_) (by simp);have ap:t4≠ids.im:=fun e=>by rw [<- e,a2] at ao; cases ao
   refine ag.j7 (h':=dH (L.set t4 (some (.arr 2 []))) c0 c1 tk y.2.2 (aC t (bP 1 ids.ip t.aM.nl t.aM.l.length) (Sl.d 5 eu none ⟨kz.isEmpty,kz⟩) (bP 2 ids.im t.ax.nl t.ax.l.length) (bP 10 t3 y.1.nl y.1.l.length)) kz.length) (yd U W X) ?_;refine Y5 ?_;refine s0 (eD (TK rfl) rfl rfl (je g) rfl) rfl ?_;refine s0 (makeFunc rfl) rfl ?_
   refine sH (bV rfl rfl (Xz (s:=t.ax) (id:=ids.im) (t:=t4) (p:=fun x=>nx x y.2.2) (by rw [oQ j0 a3 a4,af.aQ _ _ (fun e=>ap e.symm)]; exact ao) (by rw [oQ U W X]; exact af.aT _ _ _) ap (fun x au aw=>Xq (a0:=x) (a1:=y.2.2) rfl au (by rw [aw c0 (fun e=>j0 e.symm)]; exact qg j u)))) rfl ?_
   refine aK.fH (h':=dH ((L.set ids.im none).set t4 (some (.arr 2 ((t.ax.l.filter fun x=>!nx x y.2.2).map Z8.c)))) c0 c1 tk y.2.2 (aC t (bP 1 ids.ip t.aM.nl t.aM.l.length) (Sl.d 5 eu none ⟨kz.isEmpty,kz⟩) (bP 2 ids.im t.ax.nl t.ax.l.length) (bP 10 t3 y.1.nl y.1.l.length)) kz.length) (Gv ap j0 a3 a4 U W X) ?_;refine Y2 ?_
   refine dB (gw (TK rfl) rfl rfl (je g) rfl (by repeat (first|exact bE.zero|apply bE.succ))) rfl rfl ?_
   refine aK.fH (h':=dH ((L.set ids.im none).set t4 (some (.arr 2 ((t.ax.l.filter fun x=>!nx x y.2.2).map Z8.c)))) c0 c1 tk y.2.2 (aC t (bP 1 ids.ip t.aM.nl t.aM.l.length) (Sl.d 5 eu none ⟨kz.isEmpty,kz⟩) (bP 2 t4 t.ax.nl (t.ax.l.filter fun x=>!nx x y.2.2).length) (bP 10 t3 y.1.nl y.1.l.length)) kz.length) (CX g) ?_;refine Y1 ?_
   exact aZ _ (⟨t.ax.nl,t.ax.l.filter fun x=>!nx x y.2.2⟩,t4,(L.set ids.im none).set t4 (some (.arr 2 ((t.ax.l.filter fun x=>!nx x y.2.2).map Z8.c)))) wA ⟨K,S.step (A:=[_]) a2 (C0 U W X)⟩
  have K:t.ax=nA c t:=by rw [aY,w]; rfl
  refine ag.skip ?_;exact aZ _ (t.ax,ids.im,L) wA ⟨K,S⟩
 rintro ⟨M,C,N⟩ ⟨K,aA⟩;dsimp only at K aA;have bR:M.l.length<=1000000:=by rw [K]; exact Nat.le_trans (XE c t) a_
 refine ag.sw 1 fun t5 bw=>?_;obtain⟨d0,d1,d2,Y⟩:=CY bw j u g;have Y:N t5=none:=Y;obtain⟨aB,a5,a6⟩:=O ids.ip (by simp [bY.all]);have aD:N ids.ip=some (.arr 1 (t.aM.l.map aG)):=aA.has (ids.ip,_) (by simp);have aE:t5≠ids.ip:=fun e=>by rw [<- e,Y] at aD; cases aD
 refine ag.j7 (h':=dH (N.set t5 (some (.arr 1 []))) c0 c1 tk y.2.2 (aC t (bP 1 ids.ip t.aM.nl t.aM.l.length) (Sl.d 5 eu none ⟨kz.isEmpty,kz⟩) (bP 2 C M.nl M.l.length) (bP 10 t3 y.1.nl y.1.l.length)) kz.length) (yd d0 d1 d2) ?_;refine Y5 ?_;refine aN.s0 (eD (TK rfl) rfl rfl (je g) rfl) rfl ?_;refine Y1 ?_;refine aN.s0 (PR rfl) rfl ?_
 refine aN.sH (bV rfl rfl (XA (s:=t.aM) (id:=ids.ip) (t:=t5) (p:=fun x=>fW y.2.2 x) (by rw [oQ aB a5 a6,af.aQ _ _ (fun e=>aE e.symm)]; exact aD) (by rw [oQ d0 d1 d2]; exact af.aT _ _ _) aE (fun x au aw=>Ar (a0:=y.2.2) (a1:=x) rfl au (by rw [aw c0 (fun e=>aB e.symm)]; exact qg j u)))) rfl ?_
 refine aN.fH (h':=dH ((N.set ids.ip none).set t5 (some (.arr 1 ((t.aM.l.filter fun x=>!fW y.2.2 x).map aG)))) c0 c1 tk y.2.2 (aC t (bP 1 ids.ip t.aM.nl t.aM.l.length) (Sl.d 5 eu none ⟨kz.isEmpty,kz⟩) (bP 2 C M.nl M.l.length) (bP 10 t3 y.1.nl y.1.l.length)) kz.length) (Gv aE aB a5 a6 d0 d1 d2) ?_;refine Y2 ?_
 refine aN.dB (gw (TK rfl) rfl rfl (je g) rfl (by repeat (first|exact bE.zero|apply bE.succ))) rfl rfl ?_
 refine aN.fH (h':=dH ((N.set ids.ip none).set t5 (some (.arr 1 ((t.aM.l.filter fun x=>!fW y.2.2 x).map aG)))) c0 c1 tk y.2.2 (aC t (bP 1 t5 t.aM.nl (t.aM.l.filter fun x=>!fW y.2.2 x).length) (Sl.d 5 eu none ⟨kz.isEmpty,kz⟩) (bP 2 C M.nl M.l.length) (bP 10 t3 y.1.nl y.1.l.length)) kz.length) (CX g) ?_;refine Y1 ?_
 have aH:=aA.step (A:=[]) Y (C0 d0 d1 d2) (o':=.arr 1 ((t.aM.l.filter fun x=>!fW y.2.2 x).map aG));generalize (N.set ids.ip none).set t5 (some (.arr 1 ((t.aM.l.filter fun x=>!fW y.2.2 x).map aG)))=P at aH ⊢;generalize bx:(t.aM.l.filter fun x=>!fW y.2.2 x)=E at aH am ⊢
 have bS:E.length<=1000000:=by rw [<- bx]; exact Nat.le_trans (List.length_filter_le _ _) a'
 refine Y5 ?_;refine aN.s0 (eD (TK rfl) rfl rfl (qg j u) rfl) rfl ?_;refine Y2 ?_;refine cm 101 ?_;refine j9 102 rfl (fun hC=>iK (TK rfl) rfl rfl (TK rfl) rfl rfl) ?_;refine j9 103 rfl (fun hC=>eD (TK rfl) rfl rfl (je g) rfl) ?_;refine j9 104 rfl (fun hC=>sx (k:=2) (id:=C) (nl:=M.nl) (m:=M.l.length) (TK rfl) rfl rfl rfl) ?_;refine Y1 ?_;refine cm 106 ?_
 refine j9 107 rfl (fun hC=>iK (TK rfl) rfl rfl (TK rfl) rfl rfl) ?_;refine j9 108 rfl (fun hC=>eD (TK rfl) rfl rfl (je g) rfl) ?_;refine j9 109 rfl (fun hC=>sx (k:=1) (id:=t5) (nl:=t.aM.nl) (m:=E.length) (TK rfl) rfl rfl rfl) ?_;refine gq 105 110 rfl rfl (fun hC=>qn rfl rfl (by omega) (by omega)) ?_;refine Y1 ?_;refine qx 111 112 rfl rfl BI ?_;refine Y3 ?_
 refine aN.dB (gw (TK rfl) rfl rfl (qg j u) rfl (by repeat (first|exact bE.zero|apply bE.succ))) rfl rfl ?_;have bA:jU c t=(y.2.2.gK||decide (((M.l.length:Nat):Int)+((E.length:Nat):Int)<((t.ax.l.length:Nat):Int)+((t.aM.l.length:Nat):Int))):=by
  unfold jU;rw [J,<- K,am]
 have bB:y.2.2.Fd=c.Fd:=by rw [aj]
 refine aN.fH (h':=dH P c0 c1 tk ⟨c.Fd,jU c t⟩ (aC t (bP 1 t5 t.aM.nl E.length) (Sl.d 5 eu none ⟨kz.isEmpty,kz⟩) (bP 2 C M.nl M.l.length) (bP 10 t3 y.1.nl y.1.l.length)) kz.length) (by rw [bA,<- bB]; exact Gu (C':=⟨y.2.2.Fd,y.2.2.gK||decide (((M.l.length:Nat):Int)+((E.length:Nat):Int)<((t.ax.l.length:Nat):Int)+((t.aM.l.length:Nat):Int))⟩) j u) ?_
 refine Y1 ?_;have fin:yg H (dH P c0 c1 tk ⟨c.Fd,jU c t⟩ (aC t (bP 1 t5 t.aM.nl E.length) (Sl.d 5 eu none ⟨kz.isEmpty,kz⟩) (bP 2 C M.nl M.l.length) (bP 10 t3 y.1.nl y.1.l.length)) kz.length) c0 c1 ids ⟨c.Fd,jU c t⟩ (nC c t):=by
  have bC:nC c t=ah.mk t.ai t.aa ⟨t.aM.nl,E⟩ t.bf ⟨kz.isEmpty,kz.map (·.1)⟩ M y.1:=by
   unfold nC;rw [am,aW,<- K,J];simp
  rw [bC];have bD:aC t (bP 1 t5 t.aM.nl E.length) (Sl.d 5 eu none ⟨kz.isEmpty,kz⟩) (bP 2 C M.nl M.l.length) (bP 10 t3 y.1.nl y.1.l.length)=cT.c (fm (ah.mk t.ai t.aa ⟨t.aM.nl,E⟩ t.bf ⟨kz.isEmpty,kz.map (·.1)⟩ M y.1) ⟨t5,C,t3,kz.map (·.2)⟩):=by
   unfold aC fm;simp only [CZ]
  rw [bD];exact yg.of (nl:=kz.isEmpty) rfl j u g bu aH
 refine aO (tl [1,9]) (fun(z:Unit)=>[]) (fun z=>dH P c0 c1 tk ⟨c.Fd,jU c t⟩ (aC t (bP 1 t5 t.aM.nl E.length) (Sl.d 5 eu none ⟨kz.isEmpty,kz⟩) (bP 2 C M.nl M.l.length) (bP 10 t3 y.1.nl y.1.l.length)) kz.length) (fun z=>oU c t=((!y.2.1)&&decide ((0:Int)<((y.1.l.length:Nat):Int)))) ?_ ?_
 ·intro bT bF;refine Y4 ?_;refine s0 (eD (TK rfl) rfl rfl (je g) rfl) rfl ?_;refine Y2 ?_
  refine aO (tl [1,9,120]) (fun(z:Bool)=>[(121,.a (.d (.bool z)))]) (fun z=>dH P c0 c1 tk ⟨c.Fd,jU c t⟩ (aC t (bP 1 t5 t.aM.nl E.length) (Sl.d 5 eu none ⟨kz.isEmpty,kz⟩) (bP 2 C M.nl M.l.length) (bP 10 t3 y.1.nl y.1.l.length)) kz.length) (fun z=>z=bif decide (t.ai=(1:Int)) then decide (t.ai=(1:Int)) else decide (t.ai=(2:Int))) ?_ ?_
  ·intro bW a7;refine Y4 ?_;refine ag.cond rfl (fun w=>?_) (fun w=>?_)
   ·refine ag.skip ?_;exact a7 _ (decide (t.ai=(1:Int))) wA (by rw [w]; rfl)
   refine Y4 ?_;exact a7 _ (decide (t.ai=(2:Int))) wA (by rw [w]; rfl)
  rintro s1 aI;refine ag.cond rfl (fun Z=>?_) (fun Z=>?_)
  ·have Q:oU c t=decide ((0:Int)<((kz.length:Nat):Int)):=by unfold oU; rw [<- aI,Z,aW]; simp
   refine Y4 ?_;refine s0 (eD (TK rfl) rfl rfl (je g) rfl) rfl ?_;refine sLen (f:=eu) (s:=⟨kz.isEmpty,kz⟩) (TK rfl) rfl rfl rfl rfl fun bX=>?_;refine Y3 ?_;refine ry ?_;rw [Q];exact bU.cH _ rfl ⟨rfl,fin⟩ (fun _ _ h=>h)
  refine aO (tl [1,9]) (fun(z:Bool)=>[(130,.a (.d (.bool z)))]) (fun z=>dH P c0 c1 tk ⟨c.Fd,jU c t⟩ (aC t (bP 1 t5 t.aM.nl E.length) (Sl.d 5 eu none ⟨kz.isEmpty,kz⟩) (bP 2 C M.nl M.l.length) (bP 10 t3 y.1.nl y.1.l.length)) kz.length) (fun z=>z=bif decide (t.ai=(3:Int)) then decide (t.ai=(3:Int)) else decide (t.ai=(4:Int))) ?_ ?_
  ·intro bZ a8;refine Y4 ?_;refine ag.cond rfl (fun w=>?_) (fun w=>?_)
   ·refine ag.skip ?_;exact a8 _ (decide (t.ai=(3:Int))) wA (by rw [w]; rfl)
   refine Y4 ?_;exact a8 _ (decide (t.ai=(4:Int))) wA (by rw [w]; rfl)
  rintro b0 a9;refine ag.cond rfl (fun aJ=>?_) (fun aJ=>?_)
  ·have Q:oU c t=decide ((0:Int)<((M.l.length:Nat):Int)):=by unfold oU; rw [<- aI,Z,<- a9,aJ,<- K]; rfl
   refine Y4 ?_;refine s0 (eD (TK rfl) rfl rfl (je g) rfl) rfl ?_;refine s0 (sx (k:=2) (id:=C) (nl:=M.nl) (m:=M.l.length) (TK rfl) rfl rfl rfl) rfl ?_;refine Y3 ?_;refine ry ?_;rw [Q];exact bU.cH _ rfl ⟨rfl,fin⟩ (fun _ _ h=>h)
  refine ag.skip ?_;exact bF _ () wA (by unfold oU; rw [<- aI,Z,<- a9,aJ,J]; rfl)
 rintro _ Q;refine Y5 ?_;refine Gk 142 ?_;refine bI 143 rfl (fun hC=>iK (TK rfl) rfl rfl (TK rfl) rfl rfl) ?_;refine bI 144 rfl (fun hC=>eD (TK rfl) rfl rfl (je g) rfl) ?_;refine bI 145 rfl (fun hC=>sx (k:=10) (id:=t3) (nl:=y.1.nl) (m:=y.1.l.length) (TK rfl) rfl rfl rfl) ?_;refine Gk 146 ?_;refine Y3 ?_;refine ry ?_;rw [Q];exact bU.cH _ rfl ⟨rfl,fin⟩ (fun _ _ h=>h)
theorem ig.ne {B:af}{t:ah}{i:bY}(h:ig B t i):∀x∈i.all,B x≠none:=fun x hx=>by
 simp only [bY.all,List.mem_cons] at hx;rcases hx with rfl|rfl|rfl|hx
 ·rw [h.ip]; simp
 ·rw [h.im]; simp
 ·rw [h.ii]; simp
 obtain⟨q,hq⟩:=List.mem_iff_getElem?.1 hx;have b:q<t.aq.l.length:=by have:=(List.getElem?_eq_some_iff.1 hq).1; rw [h.len] at this; exact this
 rw [h.fs (t.aq.l[q],x) (List.mem_iff_getElem?.2 ⟨q,List.getElem?_zip_eq_some.2 ⟨List.getElem?_eq_getElem b,hq⟩⟩)]; simp
theorem ig.congr {B b:af}{t:ah}{i:bY}(h:ig B t i) (e:∀x∈i.all,b x=B x):ig b t i :=
 ⟨h.len,(e _ (by simp [bY.all])).trans h.ip,(e _ (by simp [bY.all])).trans h.im,(e _ (by simp [bY.all])).trans h.ii,fun p f=>(e _ (by
  obtain⟨q,hq⟩:=List.mem_iff_getElem?.1 f;have:=List.mem_of_getElem? (List.getElem?_zip_eq_some.1 hq).2;simp [bY.all,this])).trans (h.fs p f)⟩
noncomputable def iF (d:jd):List ah->Bool->List ah×Bool
 | [],ch=>([],ch)
 | t::l,ch=>bif oU ⟨d,ch⟩ t then(nC ⟨d,ch⟩ t::(iF d l (jU ⟨d,ch⟩ t)).1,(iF d l (jU ⟨d,ch⟩ t)).2) else iF d l true
noncomputable def eO (s:Sl (ah×bY)):jd:=⟨⟨s.nl,s.l.map fun p=>fm p.1 p.2⟩⟩
structure gp (H:af) (d:jd) (L:List (ah×bY)) (c0 tk:Nat) (kz:List (ah×bY)) (i:Nat) (ch:Bool) (B:af):Prop where
 le:i<=L.length
 kl:kz.length<=i
 As:(kz.map (·.1)++(iF d ((L.drop i).map (·.1)) ch).1,(iF d ((L.drop i).map (·.1)) ch).2)=iF d (L.map (·.1)) false
 b7:B c0=some (.cells (cQ.c ⟨d,ch⟩))
 bu:B tk=some (.tok 7 kz.length)
 own:∀p∈kz++L.drop i,ig B p.1 p.2
 nd:(c0::tk::(kz++L.drop i).flatMap (·.2.all)).Nodup
 new:∀p∈kz,∀x∈p.2.all,x∈L.flatMap (·.2.all)\/H x=none
 e8:∀x,x≠c0->x∉L.flatMap (·.2.all)->H x≠none->B x=H x
 Gw:H tk=none
theorem gp.next {H:af}{d:jd}{L:List (ah×bY)}{c0 c1 tk:Nat}{kz:List (ah×bY)}{i:Nat}{ch r:Bool}{B h':af}{o:Ab.Obj}{t t':ah}{ids:bY}(h:gp H d L c0 tk kz i ch B) (hx:L[i]?=some (t,ids)) (l:B c1=none)
  (Z:yg (B.set c1 (some o)) h' c0 c1 ids ⟨d,r⟩ t') :
  (iF d ((L.drop i).map (·.1)) ch=(t'::(iF d ((L.drop (i+1)).map (·.1)) r).1,(iF d ((L.drop (i+1)).map (·.1)) r).2) ->
   ∃jg,h' c1=some (.cells (cT.c (fm t' jg)))/\h' tk=some (.tok 7 kz.length)/\gp H d L c0 tk (kz++[(t',jg)]) (i+1) r (h'.set tk (some (.tok 7 (kz++[(t',jg)]).length)))) /\
  (iF d ((L.drop i).map (·.1)) ch=iF d ((L.drop (i+1)).map (·.1)) true->h' c0=some (.cells (cQ.c ⟨d,r⟩))/\gp H d L c0 tk kz (i+1) true (h'.set c0 (some (.cells (cQ.c ⟨d,true⟩))))):=by
 obtain⟨⟨jg,g0,g1,g2,g3,g4⟩,aa⟩:=Z;have G:i<L.length:=(List.getElem?_eq_some_iff.1 hx).1;have I:L.drop i=(t,ids)::L.drop (i+1):=by rw [List.drop_eq_getElem_cons G]; congr 1; exact(List.getElem?_eq_some_iff.1 hx).2
 have ab:=h.nd;obtain⟨m0,ad⟩:=List.nodup_cons.1 ab;obtain⟨m1,N⟩:=List.nodup_cons.1 ad;rw [I,List.flatMap_append,List.flatMap_cons] at N m1 m0;obtain⟨ae,ai,O⟩:=List.nodup_append.1 N;obtain⟨n4,P,Q⟩:=List.nodup_append.1 ai;dsimp only at n4 P Q;have ap:c1≠c0:=fun e=>by rw [e,h.b7] at l; cases l
 have aj:c1≠tk:=fun e=>by rw [e,h.bu] at l; cases l
 have s:c0≠tk:=fun e=>m0 (e▸.head _);have hSub:∀x∈ids.all,x∈L.flatMap (·.2.all):=fun x f=>List.mem_flatMap.2 ⟨(t,ids),List.mem_of_getElem? hx,f⟩
 -- a definition that is not this one
 have J:∀x,B x≠none->x≠c0->x∉ids.all->h' x=B x:=fun x g h0 hm=>by
  have h1:x≠c1:=fun e=>g (e▸l);have j:(B.set c1 (some o)) x=B x:=af.aQ _ _ h1;rw [aa x h0 h1 hm (by rw [j]; exact g),j]
 have R:h' tk=some (.tok 7 kz.length):=by
  rw [J tk (by rw [h.bu]; simp) (fun e=>s e.symm) (fun hm=>m1 (by simp [hm])),h.bu]
 have u:∀q,q∈kz\/q∈L.drop (i+1)->∀x∈q.2.all,h' x=B x/\B x≠none/\x≠c0/\x≠tk/\x∉ids.all:=fun q hq x f=>by
  have ak:ig B q.1 q.2:=h.own q (by rw [I]; rcases hq with hq|hq<;>simp [hq]);have g:=ak.ne x f;have K:x∈kz.flatMap (·.2.all)\/x∈(L.drop (i+1)).flatMap (·.2.all):=by
   rcases hq with hq|hq
   ·exact .inl (List.mem_flatMap.2 ⟨q,hq,f⟩)
   exact .inr (List.mem_flatMap.2 ⟨q,hq,f⟩)
  have v:x≠c0:=fun e=>m0 (by rw [<- e]; rcases K with hm|hm<;>simp only [List.mem_cons,List.mem_append]<;>simp [hm]);have k:x≠tk:=fun e=>m1 (by rw [<- e]; rcases K with hm|hm<;>simp only [List.mem_append]<;>simp [hm]);have C:x∉ids.all:=fun hm=>by
   rcases K with h1|h1
   ·exact O x h1 x (List.mem_append.2 (.inl hm)) rfl
   exact Q x hm x h1 rfl
  exact⟨J x g v C,g,v,k,C⟩
 have S:∀q,q∈kz\/q∈L.drop (i+1)->ig h' q.1 q.2:=fun q hq =>
  (h.own q (by rw [I]; rcases hq with hq|hq<;>simp [hq])).congr fun x f=>(u q hq x f).1
 have U:∀x,x≠c0->x∉L.flatMap (·.2.all)->H x≠none->h' x=H x:=fun x h0 h1 j=>by
  have hB:=h.e8 x h0 h1 j;rw [J x (by rw [hB]; exact j) h0 (fun hm=>h1 (hSub x hm)),hB]
 have W:(kz.flatMap (·.2.all)++(L.drop (i+1)).flatMap (·.2.all)).Nodup:=List.nodup_append.2 ⟨ae,P,fun a p b g=>O a p b (List.mem_append.2 (.inr g))⟩;have E:=h.As;constructor
 ·intro e;rw [e] at E;have w:∀x∈jg.all,x≠c0/\x≠tk/\(x∈L.flatMap (·.2.all)\/H x=none)/\∀q,q∈kz\/q∈L.drop (i+1)->x∉q.2.all:=fun x f=>by
   have v:x≠c0:=fun e=>(List.nodup_cons.1 g3).1 (e▸.tail _ f);have k:x≠tk:=fun e=>by
    rcases g4 x f with hm|hm
    ·exact m1 (by rw [<- e]; simp [hm])
    rw [e,af.aQ _ _ (fun e=>aj e.symm),h.bu] at hm; cases hm
   refine⟨v,k, ?_,fun q hq hm=>?_⟩
   ·rcases g4 x f with hm|hm
    ·exact .inl (hSub x hm)
    by_cases c:x∈L.flatMap (·.2.all)
    ·exact .inl c
    refine .inr ?_;cases M:H x with
    | none=>rfl
    | some z =>
     have hB:=h.e8 x v c (by rw [M]; simp);by_cases c2:x=c1
     ·rw [c2,l] at hB; rw [<- c2,M] at hB; cases hB
     rw [af.aQ _ _ c2,hB,M] at hm; cases hm
   obtain⟨_,g,_,_,C⟩:=u q hq x hm;rcases g4 x f with h1|h1
   ·exact C h1
   by_cases c2:x=c1
   ·exact g (c2▸l)
   rw [af.aQ _ _ c2] at h1; exact g h1
  refine⟨jg,g1,R,G,by rw [List.length_append]; exact Nat.succ_le_succ h.kl,by simpa using E,by rw [af.aQ _ _ s]; exact g0,af.aT _ _ _,fun q hq=>?_, ?_,fun q hq x f=>?_,fun x h0 h1 j=>?_,h.Gw⟩
  ·have F:q=(t',jg)\/q∈kz\/q∈L.drop (i+1):=by
    rcases List.mem_append.1 hq with hq|hq
    ·rcases List.mem_append.1 hq with hq|hq
     ·exact .inr (.inl hq)
     exact .inl (List.mem_singleton.1 hq)
    exact .inr (.inr hq)
   rcases F with rfl|F
   ·exact g2.congr fun x f=>af.aQ _ _ (w x f).2.1
   exact(S q F).congr fun x f=>af.aQ _ _ (u q F x f).2.2.2.1
  ·rw [List.append_assoc,List.flatMap_append,List.singleton_append,List.flatMap_cons];have al:=(List.nodup_cons.1 (List.nodup_cons.1 g3).2).2;have X:∀x,x∈kz.flatMap (·.2.all)\/x∈(L.drop (i+1)).flatMap (·.2.all)->∃q,(q∈kz\/q∈L.drop (i+1))/\x∈q.2.all:=fun x hm=>by
    rcases hm with hm|hm
    ·obtain⟨q,hq,m⟩:=List.mem_flatMap.1 hm; exact⟨q,.inl hq,m⟩
    obtain⟨q,hq,m⟩:=List.mem_flatMap.1 hm; exact⟨q,.inr hq,m⟩
   have rP:∀x∈jg.all,∀y,y∈kz.flatMap (·.2.all)\/y∈(L.drop (i+1)).flatMap (·.2.all)->y≠x:=fun x f y am e=>by
    obtain⟨q,hq,m⟩:=X y am;exact(w x f).2.2.2 q hq (e▸m)
   have out:∀x,x∈kz.flatMap (·.2.all)\/x∈(L.drop (i+1)).flatMap (·.2.all)->x≠c0/\x≠tk:=fun x hm=>by
    obtain⟨q,hq,m⟩:=X x hm;obtain⟨_,_,a,b,_⟩:=u q hq x m;exact⟨a,b⟩
   have Y:∀x,x∈kz.flatMap (·.2.all)++(jg.all++(L.drop (i+1)).flatMap (·.2.all))->x≠c0/\x≠tk:=fun x hm=>by
    rcases List.mem_append.1 hm with hm|hm
    ·exact out x (.inl hm)
    rcases List.mem_append.1 hm with hm|hm
    ·exact⟨(w x hm).1,(w x hm).2.1⟩
    exact out x (.inr hm)
   refine List.nodup_cons.2 ⟨fun hm=>?_,List.nodup_cons.2 ⟨fun hm=>(Y tk hm).2 rfl, ?_⟩⟩
   ·rcases List.mem_cons.1 hm with e|hm
    ·exact s e
    exact(Y c0 hm).1 rfl
   obtain⟨o1,o2,ao⟩:=List.nodup_append.1 W;refine List.nodup_append.2 ⟨o1,List.nodup_append.2 ⟨al,o2,fun a p b g=>(rP a p b (.inr g)).symm⟩,fun a p b g=>?_⟩;rcases List.mem_append.1 g with g|g
   ·exact rP b g a (.inl p)
   exact ao a p b g
  ·rcases List.mem_append.1 hq with hq|hq
   ·exact h.new q hq x f
   rw [List.mem_singleton.1 hq] at f; exact(w x f).2.2.1
  have k:x≠tk\/x=tk:=(Nat.decEq x tk).casesOn (fun h=>.inl h) (fun h=>.inr h);rcases k with k|k
  ·rw [af.aQ _ _ k]; exact U x h0 h1 j
  exact absurd (k▸h.Gw) j
 intro e;rw [e] at E;refine⟨g0,G,Nat.le_succ_of_le h.kl,E,af.aT _ _ _,by rw [af.aQ _ _ (fun e=>s e.symm)]; exact R,fun q hq=>?_, ?_,h.new,fun x h0 h1 j=>by rw [af.aQ _ _ h0]; exact U x h0 h1 j,h.Gw⟩
 ·exact(S q (List.mem_append.1 hq)).congr fun x f=>af.aQ _ _ (u q (List.mem_append.1 hq) x f).2.2.1
 rw [List.flatMap_append];refine List.nodup_cons.2 ⟨fun hm=>m0 ?_,List.nodup_cons.2 ⟨fun hm=>m1 ?_,W⟩⟩
 ·rcases List.mem_cons.1 hm with e|hm
  ·exact absurd e s
  rcases List.mem_append.1 hm with hm|hm<;>simp only [List.mem_cons,List.mem_append]<;>simp [hm]
 rcases List.mem_append.1 hm with hm|hm<;>simp only [List.mem_append]<;>simp [hm]
theorem gp.start {H:af}{d:jd}{L:List (ah×bY)}{c0 tk:Nat}{ch:Bool}(hc:H c0=some (.cells (cQ.c ⟨d,ch⟩))) (ht:H tk=none) (g:∀p∈L,ig H p.1 p.2) (hn:(c0::L.flatMap (·.2.all)).Nodup) :
  gp H d L c0 tk [] 0 false ((H.set c0 (some (.cells (cQ.c ⟨d,false⟩)))).set tk (some (.tok 7 0))):=by
 have j:c0≠tk:=fun e=>by rw [e,ht] at hc; cases hc
 have mem:∀p∈L,∀x∈p.2.all,x≠c0/\x≠tk:=fun p b x hx=>⟨fun e=>(List.nodup_cons.1 hn).1 (e▸List.mem_flatMap.2 ⟨p,b,hx⟩),fun e=>(g p b).ne x hx (e▸ht)⟩;obtain⟨m0,k⟩:=List.nodup_cons.1 hn;refine⟨Nat.zero_le _,Nat.zero_le _,by simp,by rw [af.aQ _ _ j,af.aT],af.aT _ _ _,fun p b=>?_, ?_,fun p b=>(by cases b),fun x h0 h1 l=>?_,ht⟩
 ·have f:p∈L:=by simpa using b
  exact(g p f).congr fun x hx=>by rw [af.aQ _ _ (mem p f x hx).2,af.aQ _ _ (mem p f x hx).1]
 ·simp only [List.nil_append,List.drop_zero];refine List.nodup_cons.2 ⟨fun hm=>?_,List.nodup_cons.2 ⟨fun hm=>?_,k⟩⟩
  ·rcases List.mem_cons.1 hm with e|hm
   ·exact j e
   exact m0 hm
  obtain⟨p,b,hx⟩:=List.mem_flatMap.1 hm;exact(mem p b tk hx).2 rfl
 have hk:x≠tk:=fun e=>l (e▸ht);rw [af.aQ _ _ hk,af.aQ _ _ h0]
/-- What a round leaves. -/
structure Gx (H h':af) (c0:Nat) (L:List (ah×bY)) (d:jd):Prop where
 out:∃L':List (ah×bY),h' c0=some (.cells (cQ.c ⟨eO ⟨L'.isEmpty,L'⟩,(iF d (L.map (·.1)) false).2⟩))/\L'.map (·.1)=(iF d (L.map (·.1)) false).1/\(∀p∈L',ig h' p.1 p.2)/\(c0::L'.flatMap (·.2.all)).Nodup/\(∀p∈L',∀x∈p.2.all,x∈L.flatMap (·.2.all)\/H x=none)
 e8:∀x,x≠c0->x∉L.flatMap (·.2.all)->H x≠none->h' x=H x
theorem gp.fin {H:af}{d:jd}{L:List (ah×bY)}{c0 tk:Nat}{kz:List (ah×bY)}{ch:Bool}{B:af}(h:gp H d L c0 tk kz L.length ch B) :
  Gx H (B.set c0 (some (.cells (cQ.c ⟨eO ⟨kz.isEmpty,kz⟩,ch⟩)))) c0 L d:=by
 have hm:=h.As;rw [List.drop_length] at hm;simp only [List.map_nil,iF,List.append_nil] at hm;have f:=h.nd;rw [List.drop_length,List.append_nil] at f;obtain⟨m0,g⟩:=List.nodup_cons.1 f;obtain⟨m1,j⟩:=List.nodup_cons.1 g;have out:∀p∈kz,∀x∈p.2.all,x≠c0:=fun p b x hx e=>m0 (e▸.tail _ (List.mem_flatMap.2 ⟨p,b,hx⟩));refine⟨⟨kz,by rw [<- hm,af.aT],by rw [<- hm],fun p b=>(h.own p (by simp [b])).congr fun x hx=>af.aQ _ _ (out p b x hx),List.nodup_cons.2 ⟨fun hm=>m0 (.tail _ hm),j⟩,h.new⟩,fun x h0 h1 k=>by rw [af.aQ _ _ h0]; exact h.e8 x h0 h1 k⟩
theorem Gy {α β:Type}{z:Nat}{f:α->β}{kz:List α}{x:α}(h:(kz.length+1)*z<=cA/\kz.length+1<=cA):bh z (⟨kz.isEmpty,kz.map f⟩:Sl β) (⟨false,[f x]⟩:Sl β)=some ⟨(kz++[x]).isEmpty,(kz++[x]).map f⟩:=by
 unfold bh;rw [if_pos (by simpa using h)];simp
noncomputable def aP (p:ah×bY):cT:=fm p.1 p.2
theorem Nx {s:Sl (ah×bY)}{ch:Bool}{c0:Nat}{H:af}(I:∀p∈s.l,p.1.aq.l.length<=1000000/\p.1.ax.l.length<=1000000/\p.1.aM.l.length<=1000000) (al:s.l.length<=1000000) (b7:H c0=some (.cells (cQ.c ⟨eO s,ch⟩)))
  (J:∀p∈s.l,ig H p.1 p.2) (hn:(c0::s.l.flatMap (·.2.all)).Nodup) :
  At 21 [.d (.ptr c0 0)] H fun v h'=>v=.cL []/\Gx H h' c0 s.l (eO s):=by
 refine AC.oW 33 [] Tryz.call21 Tryz.func21 ?_;refine ag.tok 7 fun tk bu=>?_;have E:c0≠tk:=fun e=>by rw [e,bu] at b7; cases b7
 have k:=gp.start b7 bu J hn;refine Y4 ?_;refine dB (gw (TK rfl) rfl rfl (by rw [af.aQ _ _ E]; exact b7) rfl (by repeat (first|exact bE.zero|apply bE.succ))) rfl rfl ?_;refine aK.fH (h':=(H.set c0 (some (.cells (cQ.c ⟨eO s,false⟩)))).set tk (some (.tok 7 0))) (set_comm (fun e=>E e.symm)) ?_
 generalize am:(H.set c0 (some (.cells (cQ.c ⟨eO s,false⟩)))).set tk (some (.tok 7 0))=K at k ⊢;refine Y4 ?_;refine ag.fe 2 7 tk rfl k.bu ?_;refine aO (tl [0]) (fun(z:List (ah×bY)×Bool×af)=>[(2,.a (.d (Sl.d 7 cT.c (some tk) ⟨z.1.isEmpty,z.1.map aP⟩)))]) (fun z=>z.2.2) (fun z=>gp H (eO s) s.l c0 tk z.1 s.l.length z.2.1 z.2.2) ?_ ?_
 ·intro ao L;refine Y5 ?_;refine s0 (eD (TK rfl) rfl rfl k.b7 rfl) rfl ?_;refine sLen (f:=cT.c) (s:=⟨s.nl,s.l.map aP⟩) (TK rfl) rfl rfl rfl rfl fun ap=>?_;refine Y3 ?_
  refine bz (tl [0,12,13]) (fun(z:List (ah×bY)×Nat×Bool×af)=>[(2,.a (.d (Sl.d 7 cT.c (some tk) ⟨z.1.isEmpty,z.1.map aP⟩))),(14,vi z.2.1)]) (fun z=>z.2.2.2) (fun z=>s.l.length-z.2.1) (fun z=>gp H (eO s) s.l c0 tk z.1 z.2.1 z.2.2.1 z.2.2.2) ([],0,false,K) k wA ?_;rintro ⟨kz,i,ch,B⟩ b au M;dsimp only at b;have av:(s.l.map aP).length=s.l.length:=List.length_map _;refine Y3 ?_
  refine ar fun aw N=>?_;refine ag.cond rfl (fun hc=>?_) (fun hc=>?_)
  ·dsimp only at hc;have hi:i<s.l.length:=by have:=oD hc; omega
   obtain⟨⟨t,ids⟩,hx⟩:∃p,s.l[i]?=some p:=⟨_,List.getElem?_eq_getElem hi⟩;have O:(s.l.map aP)[i]?=some (fm t ids):=by rw [List.getElem?_map,hx]; rfl
   have q:s.l.drop i=(t,ids)::s.l.drop (i+1):=by rw [List.drop_eq_getElem_cons hi]; congr 1; exact(List.getElem?_eq_some_iff.1 hx).2
   obtain⟨P,Q,R⟩:=I (t,ids) (List.mem_of_getElem? hx);refine sk N (aO (tl [0,12,13,14]) (fun(z:List (ah×bY)×Bool×af)=>[(2,.a (.d (Sl.d 7 cT.c (some tk) ⟨z.1.isEmpty,z.1.map aP⟩)))]) (fun z=>z.2.2) (fun z=>gp H (eO s) s.l c0 tk z.1 (i+1) z.2.1 z.2.2) ?_ ?_)
   ·intro ay F;refine Y2 ?_;refine s0 (A5 (f:=cT.c) (n:=i) (s:=⟨s.nl,s.l.map aP⟩) (TK rfl) rfl (TK rfl) rfl rfl rfl O) rfl ?_;refine Y1 ?_;refine sE (dm.AR (TK rfl) rfl) rfl (fun _ _ _ ⟨c1,g,u,w,S⟩=>?_);subst u w S;have g:B c1=none:=g;refine dB (uD (TK rfl) rfl rfl (af.aT _ _ _) rfl (Nat.le_of_ble_eq_true rfl) rfl rfl) rfl rfl ?_
    refine aK.fH (h':=B.set c1 (some (.cells (cT.c (fm t ids))))) (af.set_set _ _ _ _) ?_;refine Y1 ?_;have G:c0≠c1:=fun e=>by rw [<- e,b.b7] at g; cases g
    have y:ig B t ids:=b.own (t,ids) (by rw [q]; simp);have U:ig (B.set c1 (some (.cells (cT.c (fm t ids))))) t ids:=y.congr fun x hx=>af.aQ _ _ fun e=>y.ne x hx (e▸g);have W:(c0::c1::ids.all).Nodup:=by
     have h1:=b.nd;rw [q,List.flatMap_append,List.flatMap_cons] at h1;obtain⟨m0,X⟩:=List.nodup_cons.1 h1;obtain⟨m1,Y⟩:=List.nodup_cons.1 X;have Z:=(List.nodup_append.1 (List.nodup_append.1 Y).2.1).1;refine List.nodup_cons.2 ⟨fun hm=>?_,List.nodup_cons.2 ⟨fun hm=>y.ne c1 hm g,Z⟩⟩;rcases List.mem_cons.1 hm with e|hm
     ·exact G e
     exact m0 (by simp [hm])
    refine Y2 ?_;refine sE (dm.call rfl rfl (XF (c:=⟨eO s,ch⟩) (t:=t) (ids:=ids) (c0:=c0) (c1:=c1) P Q R (by rw [af.aQ _ _ G]; exact b.b7) (af.aT _ _ _) U W)) rfl (fun v aS h' ⟨⟨u,aa⟩,w⟩=>?_);subst u w;obtain⟨hk,ab⟩:=b.next hx g aa
    have m:iF (eO s) ((s.l.drop i).map (·.1)) ch=bif oU ⟨eO s,ch⟩ t then(nC ⟨eO s,ch⟩ t::(iF (eO s) ((s.l.drop (i+1)).map (·.1)) (jU ⟨eO s,ch⟩ t)).1,(iF (eO s) ((s.l.drop (i+1)).map (·.1)) (jU ⟨eO s,ch⟩ t)).2)
      else iF (eO s) ((s.l.drop (i+1)).map (·.1)) true:=by rw [q]; rfl
    refine Y1 ?_;refine ag.cond rfl (fun C=>?_) (fun C=>?_)
    ·rw [C,cond_true] at m;obtain⟨jg,g1,ad,j⟩:=hk m;have aA:=b.kl;refine Y2 ?_;refine s0 (eD (TK rfl) rfl rfl g1 rfl) rfl ?_;refine Y1 ?_;refine sH (jy (f:=cT.c) (s:=⟨kz.isEmpty,kz.map aP⟩) (r:=⟨false,[aP (nC ⟨eO s,ch⟩ t,jg)]⟩) (TK rfl) rfl (TK rfl) (TK rfl) ⟨_,rfl⟩ rfl rfl (by decide) rfl rfl rfl rfl ad (by simp) (Gy (z:=144) (by unfold cA; omega))) rfl ?_
     refine aK.fH (h':=h'.set tk (some (.tok 7 (kz++[(nC ⟨eO s,ch⟩ t,jg)]).length))) (by rw [List.length_map]) ?_;refine Y2 ?_;exact F _ (kz++[(nC ⟨eO s,ch⟩ t,jg)],jU ⟨eO s,ch⟩ t,h'.set tk (some (.tok 7 (kz++[(nC ⟨eO s,ch⟩ t,jg)]).length))) wA j
    rw [C,cond_false] at m;obtain⟨g0,j⟩:=ab m;refine Y4 ?_;refine dB (gw (TK rfl) rfl rfl g0 rfl (by repeat (first|exact bE.zero|apply bE.succ))) rfl rfl ?_;refine Y1 ?_;exact F _ (kz,true,h'.set c0 (some (.cells (cQ.c ⟨eO s,true⟩)))) wA j
   rintro ⟨ae,ai,aj⟩ j;dsimp only at j;refine Y1 ?_;refine s0 (qn rfl rfl (by dsimp only; omega) (by dsimp only; omega)) rfl ?_;refine Y2 ?_;exact M _ (ae,i+1,ai,aj) wA j (by show s.l.length-(i+1)<s.l.length-i; omega)
  dsimp only at hc;have ak:i=s.l.length:=by have h1:=b.le; have:=of_decide_eq_false hc; omega
  refine ag.exit ?_;exact L _ (kz,ch,B) wA (ak▸b)
 rintro ⟨kz,ch,B⟩ b;dsimp only at b;refine Y3 ?_;refine aK.eF 29 rfl ?_;refine Y3 ?_;refine dB (uD (TK rfl) rfl rfl b.b7 rfl (Nat.le_of_ble_eq_true rfl) rfl rfl) rfl rfl ?_;refine aK.fH (h':=B.set c0 (some (.cells (cQ.c ⟨eO ⟨kz.isEmpty,kz⟩,ch⟩)))) rfl ?_;refine Y1 ?_;repeat (first|refine fQ ?_|refine fP ?_|refine fO ?_)
 exact bU.gj _ (xs:=[]) rfl ⟨rfl,b.fin⟩ (fun _ _ h=>h)
/-- Objects laid over a heap. -/
def mh (H:af) (l:List (Nat×Ab.Obj)):af:=fun x=>match l.find? (fun p=>Nat.beq p.1 x) with|some p=>some p.2|none=>H x
theorem Ny {H:af}{l:List (Nat×Ab.Obj)}{x:Nat}(h:x∉l.map (·.1)):mh H l x=H x:=by
 unfold mh;have:l.find? (fun p=>Nat.beq p.1 x)=none:=List.find?_eq_none.2 fun p b e=>h (Nat.eq_of_beq_eq_true e▸List.mem_map_of_mem b);rw [this]
theorem Av {H:af}{l:List (Nat×Ab.Obj)}{p:Nat×Ab.Obj}(hn:(l.map (·.1)).Nodup) (b:p∈l):mh H l p.1=some p.2:=by
 unfold mh;induction l with
 | nil=>cases b
 | cons a r f =>
  rw [List.map_cons] at hn;obtain⟨g,j⟩:=List.nodup_cons.1 hn;rcases List.mem_cons.1 b with rfl|b
  ·simp
  have:Nat.beq a.1 p.1=false:=Bool.eq_false_iff.2 fun e=>g (Nat.eq_of_beq_eq_true e▸List.mem_map_of_mem b);rw [List.find?_cons,this]; exact f j b
structure rQ (H:af) (t:ah) (i:bY):Prop where
 len:i.fs.length=t.aq.l.length
 ip:H i.ip=some (.arr 1 [])
 im:H i.im=some (.arr 2 [])
 ii:H i.ii=some (.arr 10 [])
 fs:∀k∈i.fs,H k=some (.arr 10 [])
 nd:i.all.Nodup
noncomputable def oV (a0:Z2) (x3:Sl Bs) (f:Z6):Bool:=match (jt f.bf).bind fun b=>xw (⟨false,[x3,b]⟩:Sl (Sl Bs)) with|some l=>nr a0 l|none=>false
noncomputable def vG (a0:Z2) (x3:Sl Bs) (l:List Z6) (ks:List Nat):List Nat:=((l.zip ks).filter fun p=>oV a0 x3 p.1).map (·.2)
noncomputable def lG (a0:Z2) (a1:ah) (i:bY):bY:=match jt a1.bf with|some x3=>⟨i.ip,i.im,i.ii,vG a0 x3 a1.aq.l i.fs⟩|none=>i
def fC (t:ah) (P b F M f:D):List D:=[.int .i64 t.ai,.str t.aa,P,b,F,M,f]
structure iG (H:af) (t:ah) (ids:bY) (a0:Z2) (x3 x5:Sl Bs) (x7:Sl Z7) (tk:Nat) (kz:List (Z6×Nat)) (i:Nat) (B:af):Prop where
 le:i<=t.aq.l.length
 kl:kz.length<=i
 vH:kz.map (·.2)=(((t.aq.l.zip ids.fs).take i).filter fun p=>oV a0 x3 p.1).map (·.2)
 kh:∀p∈kz,B p.2=some (jf p.1)
 Gz:B ids.ip=some (.arr 1 (x5.l.map aG))
 GA:B ids.ii=some (.arr 10 (x7.l.map Z7.c))
 bu:B tk=some (.tok 5 kz.length)
 e8:∀x,x≠tk->x≠ids.ip->x≠ids.ii->x∉kz.map (·.2)->B x=H x
section
variable {H:af}{t:ah}{ids:bY}{a0:Z2}{x3 x5:Sl Bs}{x7:Sl Z7}{tk:Nat}{kz:List (Z6×Nat)}{i:Nat}{B:af}{f f':Z6}{k:Nat}
theorem iG.start (b:rQ H t ids) (bu:H tk=none):iG H t ids a0 x3 x5 x7 tk [] 0 (((H.set ids.ip (some (.arr 1 (x5.l.map aG)))).set ids.ii (some (.arr 10 (x7.l.map Z7.c)))).set tk (some (.tok 5 0))):=by
 have f:ids.ip≠tk:=fun e=>by rw [<- e,b.ip] at bu; cases bu
 have k2:ids.ii≠tk:=fun e=>by rw [<- e,b.ii] at bu; cases bu
 have g:ids.ip≠ids.ii:=fun e=>by have:=b.nd; rw [bY.all,e] at this; simp at this
 exact⟨Nat.zero_le _,Nat.zero_le _,by simp,fun p j=>(by cases j),by rw [af.aQ _ _ f,af.aQ _ _ g,af.aT],by rw [af.aQ _ _ k2,af.aT],af.aT _ _ _,
  fun x h1 k m _=>by rw [af.aQ _ _ h1,af.aQ _ _ m,af.aQ _ _ k]⟩
theorem iG.sub (h:iG H t ids a0 x3 x5 x7 tk kz i B) (j:rQ H t ids) (hx:(t.aq.l.zip ids.fs)[i]?=some (f,k)) (bu:H tk=none):k∉kz.map (·.2)/\k≠tk/\k≠ids.ip/\k≠ids.ii/\k≠ids.im/\B k=some (.arr 10 []):=by
 obtain⟨z,hk⟩:=Au hx;have b:k∈ids.fs:=List.mem_of_getElem? hk;have s:=j.nd;simp only [bY.all,List.nodup_cons,List.mem_cons,not_or] at s;obtain⟨⟨a1,a2,a3⟩,⟨C,u⟩,c1,c2⟩:=s;have h1:k∉kz.map (·.2):=by
  rw [h.vH];intro hm;obtain⟨p,v,e⟩:=List.mem_map.1 hm;have w:=(List.mem_filter.1 v).1;obtain⟨q,hq⟩:=List.mem_iff_getElem?.1 w;rw [List.getElem?_take] at hq
  split at hq
  ·rename_i bn
   have g:=(List.getElem?_zip_eq_some.1 hq).2;rw [e,<- hk] at g;have m:=(List.getElem?_eq_some_iff.1 hk).1;have r:=(List.getElem?_inj (by omega) c2).1 g;omega
  cases hq
 have g:k≠tk:=fun e=>by have:=j.fs k b; rw [e,bu] at this; cases this
 have r:k≠ids.ip:=fun e=>a3 (e▸b);have m:k≠ids.ii:=fun e=>c1 (e▸b);have y:k≠ids.im:=fun e=>u (e▸b);exact⟨h1,g,r,m,y,by rw [h.e8 k g r m h1]; exact j.fs k b⟩
theorem iG.skip (h:iG H t ids a0 x3 x5 x7 tk kz i B) (hx:(t.aq.l.zip ids.fs)[i]?=some (f,k)) (b:oV a0 x3 f=false):iG H t ids a0 x3 x5 x7 tk kz (i+1) B:=by
 obtain⟨hi,e⟩:=List.getElem?_eq_some_iff.1 hx;refine⟨(List.getElem?_eq_some_iff.1 (Au hx).1).1,Nat.le_succ_of_le h.kl, ?_,h.kh,h.Gz,h.GA,h.bu,h.e8⟩;rw [List.take_succ_eq_append_getElem hi,List.filter_append,e];have:([(f,k)]:List (Z6×Nat)).filter (fun p=>oV a0 x3 p.1)=[]:=by simp [b]
 rw [this,List.append_nil]; exact h.vH
theorem iG.keep (h:iG H t ids a0 x3 x5 x7 tk kz i B) (g:rQ H t ids) (hx:(t.aq.l.zip ids.fs)[i]?=some (f,k)) (bu:H tk=none) (q:oV a0 x3 f=true) :
  iG H t ids a0 x3 x5 x7 tk (kz++[(f',k)]) (i+1) ((B.set k (some (jf f'))).set tk (some (.tok 5 (kz++[(f',k)]).length))):=by
 obtain⟨hi,e⟩:=List.getElem?_eq_some_iff.1 hx;obtain⟨r,s,k2,u,_,_⟩:=h.sub g hx bu;have t1:ids.ip≠tk:=fun e=>by rw [<- e,g.ip] at bu; cases bu
 have t2:ids.ii≠tk:=fun e=>by rw [<- e,g.ii] at bu; cases bu
 have m:∀p∈kz,p.2≠k/\p.2≠tk:=fun p b=>⟨fun e=>r (e▸List.mem_map_of_mem b),fun e=>by have:=h.kh p b; rw [e,h.bu] at this; cases this⟩;refine⟨(List.getElem?_eq_some_iff.1 (Au hx).1).1,by rw [List.length_append]; exact Nat.succ_le_succ h.kl, ?_,fun p b=>?_,by rw [af.aQ _ _ t1,af.aQ _ _ (fun e=>k2 e.symm)]; exact h.Gz,by rw [af.aQ _ _ t2,af.aQ _ _ (fun e=>u e.symm)]; exact h.GA,af.aT _ _ _,fun x h1 v w j=>?_⟩
 ·rw [List.take_succ_eq_append_getElem hi,List.filter_append,e];have:([(f,k)]:List (Z6×Nat)).filter (fun p=>oV a0 x3 p.1)=[(f,k)]:=by simp [q]
  rw [this,List.map_append,List.map_append,<- h.vH]; rfl
 ·rcases List.mem_append.1 b with b|b
  ·rw [af.aQ _ _ (m p b).2,af.aQ _ _ (m p b).1]; exact h.kh p b
  rw [List.mem_singleton.1 b,af.aQ _ _ s,af.aT]
 rw [List.map_append,List.mem_append,not_or] at j;rw [af.aQ _ _ h1,af.aQ _ _ (fun e=>j.2 (by simp [e]))];exact h.e8 x h1 v w j.1
end
theorem XG {j:J}{w:World}{h:af}{xs:List D}{cs:List Value}(i k id:Nat){nl:Bool}{n:Nat}{rows:List (List D)}(hh:fo j w h) (hi:h id=some (.arr k rows)) (hn:n=rows.length) (hx:aW (aD j w) xs cs) (hc:xs[i]?=some (.arr k id nl n)) :
  aW (aD j w) (xs.set i (bP k id nl n)) cs:=by
 refine aW.jV (by rw [List.length_set,hx.length]) fun m x v hm hv=>?_;rw [List.getElem?_set] at hm
 split at hm
 ·rename_i e
  subst e
  split at hm
  ·obtain rfl:=oJ hm;obtain⟨p,f,hr⟩:=hx.get hc;rw [hv] at f; obtain rfl:=oJ f;cases n with
   | succ n=>exact hr
   | zero =>
    have hl:HL j w [] [] h:=⟨hh,⟨.nil,by simp,by simp⟩⟩;have h0:rows=[]:=by cases rows with|nil=>rfl|cons _ _=>cases hn
    show aD j w (.slice k none nl []) v;have q:br j w [] (.a (.d (.arr k id nl rows.length))) v:=by rw [<- hn]; exact hr
    rcases hl.sv hi rfl q with ⟨base,g,l,_⟩|⟨b,r,s,ce,g,l,_⟩
    ·rw [g]; exact uL l fun _=>rfl
    subst h0; rw [g,l]; exact uL rfl fun h=>by cases h
  cases hm
 obtain⟨p,f,hr⟩:=hx.get hm;rw [hv] at f; obtain rfl:=oJ f; exact hr
theorem iG.im {H:af}{t:ah}{ids:bY}{a0:Z2}{x3 x5:Sl Bs}{x7:Sl Z7}{tk:Nat}{kz:List (Z6×Nat)}{i:Nat}{B:af}(h:iG H t ids a0 x3 x5 x7 tk kz i B) (b:rQ H t ids) (bu:H tk=none):B ids.im=some (.arr 2 []):=by
 have f:=b.nd;simp only [bY.all,List.nodup_cons,List.mem_cons,not_or] at f;obtain⟨⟨a1,a2,a3⟩,⟨g,j⟩,c1,c2⟩:=f;rw [h.e8 ids.im (fun e=>by have:=b.im; rw [e,bu] at this; cases this) (fun e=>a1 e.symm) g (fun hm=>?_)]
 ·exact b.im
 rw [h.vH] at hm;obtain⟨p,k,e⟩:=List.mem_map.1 hm;obtain⟨q,hq⟩:=List.mem_iff_getElem?.1 (List.mem_of_mem_take (List.mem_filter.1 k).1);exact j (e▸List.mem_of_getElem? (List.getElem?_zip_eq_some.1 hq).2)
theorem iG.fin {H:af}{t:ah}{ids:bY}{a0:Z2}{x3 x5:Sl Bs}{x7:Sl Z7}{tk:Nat}{kz:List (Z6×Nat)}{i:Nat}{B:af}(h:iG H t ids a0 x3 x5 x7 tk kz i B) (g:rQ H t ids) (bu:H tk=none){K:Int}{N:Bs}{j:Sl aA}{nl:Bool}(M:Sl Z8) :
  ∀x o,mh H (fE (ah.mk K N x5 j ⟨nl,kz.map (·.1)⟩ M x7) ⟨ids.ip,ids.im,ids.ii,kz.map (·.2)⟩) x=some o->(B.set ids.im (some (.arr 2 (M.l.map Z8.c)))) x=some o:=by
 have k:=g.nd;simp only [bY.all,List.nodup_cons,List.mem_cons,not_or] at k;obtain⟨⟨a1,a2,a3⟩,⟨m,r⟩,c1,c2⟩:=k;have f:∀p∈kz,p.2∈ids.fs:=fun p b=>by
  have hm:p.2∈kz.map (·.2):=List.mem_map_of_mem b;rw [h.vH] at hm;obtain⟨q,hq,e⟩:=List.mem_map.1 hm;obtain⟨n,hn⟩:=List.mem_iff_getElem?.1 (List.mem_of_mem_take (List.mem_filter.1 hq).1);exact e▸List.mem_of_getElem? (List.getElem?_zip_eq_some.1 hn).2
 have s:(kz.map (·.2)).Nodup:=by
  rw [h.vH];refine List.Sublist.nodup (List.Sublist.map _ (List.filter_sublist.trans (List.take_sublist _ _))) ?_;rw [List.map_snd_zip (by rw [g.len]; exact Nat.le_refl _)]; exact c2
 have hz:(kz.map (·.1)).zip (kz.map (·.2))=kz:=CZ kz;have u:fE (ah.mk K N x5 j ⟨nl,kz.map (·.1)⟩ M x7) ⟨ids.ip,ids.im,ids.ii,kz.map (·.2)⟩=(ids.ip,.arr 1 (x5.l.map aG))::(ids.im,.arr 2 (M.l.map Z8.c))::(ids.ii,.arr 10 (x7.l.map Z7.c))::kz.map fun p=>(p.2,jf p.1):=by
  unfold fE; dsimp only; rw [hz]
 rw [u];have nd:(((ids.ip,Ab.Obj.arr 1 (x5.l.map aG))::(ids.im,.arr 2 (M.l.map Z8.c))::(ids.ii,.arr 10 (x7.l.map Z7.c))::kz.map fun p=>(p.2,jf p.1)).map (·.1)).Nodup:=by
  simp only [List.map_cons,List.map_map,List.nodup_cons,List.mem_cons,List.mem_map,not_or,Function.comp_apply];exact⟨⟨a1,a2,fun⟨q,hq,e⟩=>a3 (e▸f q hq)⟩,⟨m,fun⟨q,hq,e⟩=>r (e▸f q hq)⟩,fun⟨q,hq,e⟩=>c1 (e▸f q hq),s⟩
 intro x o hx;by_cases hm:x∈(((ids.ip,Ab.Obj.arr 1 (x5.l.map aG))::(ids.im,.arr 2 (M.l.map Z8.c))::(ids.ii,.arr 10 (x7.l.map Z7.c))::kz.map fun p=>(p.2,jf p.1)).map (·.1))
 ·obtain⟨p,b,rfl⟩:=List.mem_map.1 hm;rw [Av nd b] at hx;rw [<- hx];simp only [List.mem_cons,List.mem_map] at b;rcases b with rfl|rfl|rfl|⟨q,hq,rfl⟩
  ·rw [af.aQ _ _ a1]; exact h.Gz
  ·exact af.aT _ _ _
  ·rw [af.aQ _ _ (fun e=>m e.symm)]; exact h.GA
  have v:q.2≠ids.im:=fun e=>r (by rw [<- e]; exact f q hq);rw [af.aQ _ _ v]; exact h.kh q hq
 rw [Ny hm] at hx;simp only [List.map_cons,List.map_map,List.mem_cons,List.mem_map,not_or,Function.comp_apply] at hm;obtain⟨m1,m2,m3,m4⟩:=hm;rw [af.aQ _ _ m2,h.e8 x (fun e=>by rw [e,bu] at hx; cases hx) m1 m3 (fun hk=>by obtain⟨q,hq,e⟩:=List.mem_map.1 hk; exact m4 ⟨q,hq,e⟩)];exact hx
theorem XH {a0 a1 ids r}(b:p_ a0 a1=some r){H:af}(u:rQ H a1 ids) (hB:a1.aq.l.length<=1000000):At 20 [.agg (Z2.c a0),.agg (ah.c a1)] H (RT (.a (.agg (cT.c (fm r (lG a0 a1 ids))))) (mh H (fE r (lG a0 a1 ids)))):=by
 unfold p_ zV at b;refine AC.oW 97 [.cell 4 40] Tryz.call20 Tryz.func20 ?_;refine Y8 ?_;obtain⟨x3,N,b⟩:=aX b;refine Sc rfl rfl (vD N) (Y2 ?_);have ap:jt a1.bf=some x3:=N;refine Y7 ?_;obtain⟨x5,au,b⟩:=aX b;have aw:ids.ip≠ids.ii:=fun e=>by have:=u.nd; rw [bY.all,e] at this; simp at this
 refine aN.sH (bV rfl rfl (AC.bP (Wm au _ u.ip) (af.aT _ _ _) (List.length_map _).symm)) rfl ?_;refine Y2 ?_;obtain⟨g,ay,b⟩:=aX b;refine cF rfl rfl (ul ay) (Y2 ?_);obtain⟨x7,aB,b⟩:=aX b;refine aN.sH (bV rfl rfl (AC.bP (Nt aB _ (by rw [af.aQ _ _ (fun e=>aw e.symm)]; exact u.ii)) (af.aT _ _ _) (List.length_map _).symm)) rfl ?_;refine Y4 ?_
 refine ag.tok 5 fun tk v=>?_;obtain⟨bm,v⟩:=af.eA v;obtain⟨bn,v⟩:=af.eA v;have bu:H tk=none:=v;refine ag.cU 1 _ rfl (fun j w cs hh hx=>tok_cell 4 5 5 hh (t:=tk) (af.aT _ _ _) hx rfl) ?_;have O:∀{B:af}{kz:List (Z6×Nat)}{i:Nat},iG H a1 ids a0 x3 x5 x7 tk kz i B->B ids.im=some (.arr 2 []):=fun h=>iG.im h u bu
 have C:=iG.start (a0:=a0) (x3:=x3) (x5:=x5) (x7:=x7) u bu;refine ag.cU 1 _ rfl (fun j w cs hh hx=>P4 5 2 2 hh (t:=ids.im) (O C) hx rfl) ?_;generalize ((H.set ids.ip (some (.arr 1 (x5.l.map aG)))).set ids.ii (some (.arr 10 (x7.l.map Z7.c)))).set tk (some (.tok 5 0))=aC at C ⊢;have bo:(a1.aq.l.zip ids.fs).length=a1.aq.l.length:=by rw [List.length_zip,u.len,Nat.min_self]
 refine dS (tl [2,3,4,5,6]) (fun(z:List (Z6×Nat)×af)=>[]) (fun z=>[ah.c ah.zero,fC a1 (bP 1 ids.ip x5.nl x5.l.length) (Sl.d 2 aA.c none g) (Sl.d 5 eu (some tk) ⟨z.1.isEmpty,z.1⟩) (.arr 2 ids.im true 0) (bP 10 ids.ii x7.nl x7.l.length)]) (fun z=>z.2) (fun z=>Option.bind (gG a0 a1 x3 a1.ax.l (ah.mk a1.ai a1.aa x5 g ⟨z.1.isEmpty,z.1.map (·.1)⟩ (Sl.nil:Sl Z8) x7)) (fun y=>some y)=some r/\iG H a1 ids a0 x3 x5 x7 tk z.1 a1.aq.l.length z.2) ?_ ?_
 ·intro bp aD;refine Y3 ?_;refine aU Z6.c a1.aq fun bq=>Y3 ?_
  refine gz (tl [2,3,4,5,6,29,30]) (fun(z:Nat×List (Z6×Nat)×af)=>[(31,vi z.1)]) (fun z=>[ah.c ah.zero,fC a1 (bP 1 ids.ip x5.nl x5.l.length) (Sl.d 2 aA.c none g) (Sl.d 5 eu (some tk) ⟨z.2.1.isEmpty,z.2.1⟩) (.arr 2 ids.im true 0) (bP 10 ids.ii x7.nl x7.l.length)]) (fun z=>z.2.2) (fun z=>a1.aq.l.length-z.1) (fun z=>Option.bind (jF a0 x3 (a1.aq.l.drop z.1) (ah.mk a1.ai a1.aa x5 g ⟨z.2.1.isEmpty,z.2.1.map (·.1)⟩ (Sl.nil:Sl Z8) x7)) (fun E=>on (E) fun F=>Option.bind (gG a0 a1 x3 a1.ax.l F) fun G=>on (G) fun I=>some I)=some r/\iG H a1 ids a0 x3 x5 x7 tk z.2.1 z.1 z.2.2) (0,[],aC) ⟨b,C⟩ wA ?_
  rintro ⟨i,kz,B⟩ ⟨b,m⟩ br aE;dsimp only at b m;refine Y3 ?_;refine ar fun bs aF=>?_;refine ag.cond rfl (fun hc=>?_) (fun hc=>?_)
  ·dsimp only at hc;have hi:i<a1.aq.l.length:=by have:=oD hc; omega
   obtain⟨⟨f,k⟩,hx⟩:∃p,(a1.aq.l.zip ids.fs)[i]?=some p:=⟨_,List.getElem?_eq_getElem (by omega)⟩;have P:=(Au hx).1;obtain⟨bt,aH,k2,bv,bw,aI⟩:=m.sub u hx bu;have aM:a1.aq.l.drop i=f::a1.aq.l.drop (i+1):=by rw [List.drop_eq_getElem_cons hi]; congr 1; exact(List.getElem?_eq_some_iff.1 P).2
   rw [aM,jF] at b;refine sk aF ?_
   refine dS (tl [2,3,4,5,6,29,30,31]) (fun(z:List (Z6×Nat)×af)=>[]) (fun z=>[ah.c ah.zero,fC a1 (bP 1 ids.ip x5.nl x5.l.length) (Sl.d 2 aA.c none g) (Sl.d 5 eu (some tk) ⟨z.1.isEmpty,z.1⟩) (.arr 2 ids.im true 0) (bP 10 ids.ii x7.nl x7.l.length)]) (fun z=>z.2) (fun z=>Option.bind (jF a0 x3 (a1.aq.l.drop (i+1)) (ah.mk a1.ai a1.aa x5 g ⟨z.1.isEmpty,z.1.map (·.1)⟩ (Sl.nil:Sl Z8) x7)) (fun E=>on (E) fun F=>Option.bind (gG a0 a1 x3 a1.ax.l F) fun G=>on (G) fun I=>some I)=some r/\iG H a1 ids a0 x3 x5 x7 tk z.1 (i+1) z.2) ?_ ?_
   ·intro bx Q;refine Y2 ?_;refine S (ix Z6.c i P) (Y9 ?_);obtain⟨R,U,b⟩:=aJ b;refine cF rfl rfl (vD U) (Y1 ?_);obtain⟨aO,W,b⟩:=aJ b;refine cF rfl rfl (CP W) ?_;obtain⟨aP,X,b⟩:=eG b;refine cF rfl rfl (CO X) (Y1 ?_);have Y:oV a0 x3 f=aP:=by
     unfold oV;have J:jt f.bf=some R:=U;have aR:xw (⟨false,[x3,R]⟩:Sl (Sl Bs))=some aO:=W;rw [J,oB,aR];exact oJ X
    obtain⟨bz,Z,b⟩:=dA b;refine cO b (fun K b=>?_) (fun K b=>?_)
    ·refine Y4 ?_;obtain⟨aS,aV,b⟩:=aJ b;refine Sc rfl rfl (Ak aV) (Y7 ?_);obtain⟨aW,aY,b⟩:=aJ b;refine Sc rfl rfl (ul aY) (Y6 ?_);obtain⟨aZ,a2,b⟩:=aJ b;refine sH (bV rfl rfl (AC.bP (Nt a2 _ aI) (af.aT _ _ _) (List.length_map _).symm)) rfl ?_;refine Y8 ?_;obtain⟨bA,L,b⟩:=aJ b;have bB:=m.kl
     have ab:(kz.length+1)*104<=cA/\kz.length+1<=cA:=by unfold cA; omega
     generalize ad:Z6.mk f.aa aZ (aL.mk f.av.aa aS) aW=f' at L;have ae:=Gy (z:=104) (f:=fun q:Z6×Nat=>q.1) (kz:=kz) (x:=(f',k)) ab;dsimp only at ae;rw [ae] at L;obtain rfl:=oJ L
     refine sH (jy (f:=eu) (s:=⟨kz.isEmpty,kz⟩) (r:=⟨false,[(f',k)]⟩) (TK rfl) rfl (TK rfl) (TK rfl) ⟨_,rfl⟩ rfl rfl (by decide) rfl (by subst ad; rfl) rfl rfl (by rw [af.aQ _ _ (fun e=>aH e.symm)]; exact m.bu) rfl (Nw ab)) rfl ?_;refine aK.fH (h':=(B.set k (some (jf f'))).set tk (some (.tok 5 (kz++[(f',k)]).length))) (by subst ad; rfl) ?_;refine Y3 ?_;have b:=ku Z b
     exact Q _ (kz++[(f',k)],(B.set k (some (jf f'))).set tk (some (.tok 5 (kz++[(f',k)]).length))) wA ⟨b,m.keep u hx bu (Y.trans K)⟩
    refine ag.skip ?_;have b:=ku Z b;exact Q _ (kz,B) wA ⟨b,m.skip hx (Y.trans K)⟩
   rintro ⟨a3,a4⟩ ⟨b,aj⟩;dsimp only at b aj;refine Y1 ?_;refine s0 (qn rfl rfl (by dsimp only; omega) (by dsimp only; omega)) rfl ?_;refine Y2 ?_;exact aE _ (i+1,a3,a4) wA ⟨b,aj⟩ (by show a1.aq.l.length-(i+1)<a1.aq.l.length-i; omega)
  dsimp only at hc;have a5:i=a1.aq.l.length:=by have h1:=m.le; have:=of_decide_eq_false hc; omega
  subst a5;rw [List.drop_length,jF] at b;refine ag.exit ?_;exact aD _ (kz,B) wA ⟨b,m⟩
 rintro ⟨kz,B⟩ ⟨b,m⟩;dsimp only at b m;have a6:=O m;have a7:B=B.set ids.im (some (.arr 2 ((Sl.nil:Sl Z8).l.map Z8.c))):=(af.kD B _ _ a6).symm;refine ag.j7 (h':=B.set ids.im (some (.arr 2 ((Sl.nil:Sl Z8).l.map Z8.c)))) a7 ?_
 refine dS (tl [4,6]) (fun(z:Sl Z8)=>[]) (fun z=>[ah.c ah.zero,fC a1 (bP 1 ids.ip x5.nl x5.l.length) (Sl.d 2 aA.c none g) (Sl.d 5 eu (some tk) ⟨kz.isEmpty,kz⟩) (.arr 2 ids.im z.nl z.l.length) (bP 10 ids.ii x7.nl x7.l.length)]) (fun z=>B.set ids.im (some (.arr 2 (z.l.map Z8.c)))) (fun z=>ah.mk a1.ai a1.aa x5 g ⟨kz.isEmpty,kz.map (·.1)⟩ z x7=r) ?_ ?_
 ·intro bD a8;refine Y3 ?_;refine aU Z8.c a1.ax fun bF=>Y3 ?_
  refine gz (tl [2,3,4,5,6,65,66]) (fun(z:Nat×Sl Z8)=>[(67,vi z.1)]) (fun z=>[ah.c ah.zero,fC a1 (bP 1 ids.ip x5.nl x5.l.length) (Sl.d 2 aA.c none g) (Sl.d 5 eu (some tk) ⟨kz.isEmpty,kz⟩) (.arr 2 ids.im z.2.nl z.2.l.length) (bP 10 ids.ii x7.nl x7.l.length)]) (fun z=>B.set ids.im (some (.arr 2 (z.2.l.map Z8.c)))) (fun z=>a1.ax.l.length-z.1) (fun z=>z.1<=a1.ax.l.length/\Option.bind (gG a0 a1 x3 (a1.ax.l.drop z.1) (ah.mk a1.ai a1.aa x5 g ⟨kz.isEmpty,kz.map (·.1)⟩ z.2 x7)) (fun y=>some y)=some r) (0,(Sl.nil:Sl Z8)) ⟨Nat.zero_le _,b⟩ wA ?_
  rintro ⟨i,M⟩ ⟨hle,b⟩ bG a9;dsimp only at hle b;refine Y3 ?_;refine ar fun bH a_=>?_;refine ag.bJ (fun l=>Option.bind (gG a0 a1 x3 l (ah.mk a1.ai a1.aa x5 g ⟨kz.isEmpty,kz.map (·.1)⟩ M x7)) (fun y=>some y)=some r) b rfl (fun bI a' ak b=>?_) (fun ak b=>?_)
  ·rw [gG] at b;have ba:i<a1.ax.l.length:=by have:=oD ak; omega
   refine sk a_ ?_
   refine dS (tl [2,3,4,5,6,65,66,67]) (fun(z:Sl Z8)=>[]) (fun z=>[ah.c ah.zero,fC a1 (bP 1 ids.ip x5.nl x5.l.length) (Sl.d 2 aA.c none g) (Sl.d 5 eu (some tk) ⟨kz.isEmpty,kz⟩) (.arr 2 ids.im z.nl z.l.length) (bP 10 ids.ii x7.nl x7.l.length)]) (fun z=>B.set ids.im (some (.arr 2 (z.l.map Z8.c)))) (fun z=>Option.bind (gG a0 a1 x3 (a1.ax.l.drop (i+1)) (ah.mk a1.ai a1.aa x5 g ⟨kz.isEmpty,kz.map (·.1)⟩ z x7)) (fun y=>some y)=some r) ?_ ?_
   ·intro bK al;refine Y2 ?_;obtain⟨bL,bb,b⟩:=vO a' b;refine S (ix Z8.c i bb) (Y4 ?_);refine bC 10 _ rfl (kl [2,3,4,5,6,65,66,67]) ?_;refine Y8 ?_;refine cm 77 ?_;obtain⟨bM,bc,b⟩:=fz b;refine mB 78 rfl rfl rfl rfl rfl (fun hC=>vD (bc hC)) ?_;refine gq 76 79 rfl rfl (fun hC=>buildSlice (TK rfl) rfl (TK rfl) rfl rfl rfl rfl rfl rfl) ?_;obtain⟨bN,bd,b⟩:=fz b
    refine mB 80 rfl rfl rfl rfl rfl (fun hC=>CP (bd hC)) ?_;obtain⟨bO,be,b⟩:=ee (fun _=>rfl) b;refine sD 75 81 rfl rfl rfl rfl rfl rfl (fun hC=>CO (be hC)) ?_;refine Y2 ?_;obtain⟨bQ,am,b⟩:=dA b;refine cO b (fun bg b=>?_) (fun bg b=>?_)
    ·refine ag.draw rfl ?_;refine Y6 ?_;obtain⟨bR,bh,b⟩:=aJ b;refine cF rfl rfl (ul bh) (Y2 ?_);obtain⟨ao,bi,b⟩:=aJ b;refine aN.sH (DG (f:=Z8.c) (s:=M) (TK rfl) rfl (TK rfl) (TK rfl) ⟨_,rfl⟩ rfl rfl rfl rfl rfl rfl (af.aT _ _ _) rfl rfl bi) rfl ?_;refine aN.fH (h':=B.set ids.im (some (.arr 2 (ao.l.map Z8.c)))) (af.set_set _ _ _ _) ?_;refine Y1 ?_
     refine aN.iT (mr (TK rfl) rfl rfl rfl rfl (by repeat (first|exact bE.zero|apply bE.succ)) (by repeat (first|exact bE.zero|apply bE.succ))) ?_;refine Y1 ?_;exact al _ ao wA (ku am b:)
    refine ag.skip ?_;exact al _ M wA (ku am b:)
   rintro bj b;refine Y1 ?_;refine s0 (qn rfl rfl (by dsimp only; omega) (by dsimp only; omega)) rfl ?_;refine Y2 ?_;exact a9 _ (i+1,bj) wA ⟨ba,b⟩ (by show a1.ax.l.length-(i+1)<a1.ax.l.length-i; omega)
  rw [gG] at b;refine ag.exit ?_;exact a8 _ M wA (oJ b)
 rintro M b;subst b;refine ar fun bS bk=>ag.cU 1 _ rfl (fun j w cs hh hx=>kH 4 hx rfl) ?_;refine ag.cU 1 _ rfl (fun j w cs hh hx=>XG 5 2 ids.im hh (af.aT _ _ _) (List.length_map _).symm hx rfl) ?_;refine Y4 ?_;refine bk _ ?_;refine ry ?_;have bl:lG a0 a1 ids=⟨ids.ip,ids.im,ids.ii,kz.map (·.2)⟩:=by
  unfold lG vG;rw [ap,m.vH,List.take_of_length_le (by omega)]
 have J:cT.c (fm (ah.mk a1.ai a1.aa x5 g ⟨kz.isEmpty,kz.map (·.1)⟩ M x7) ⟨ids.ip,ids.im,ids.ii,kz.map (·.2)⟩)=fC a1 (bP 1 ids.ip x5.nl x5.l.length) (Sl.d 2 aA.c none g) (Sl.d 5 eu none ⟨kz.isEmpty,kz⟩) (bP 2 ids.im M.nl M.l.length) (bP 10 ids.ii x7.nl x7.l.length):=by
  unfold fm;simp only [CZ];rfl
 rw [bl,J];refine bU.cH (mh H (fE (ah.mk a1.ai a1.aa x5 g ⟨kz.isEmpty,kz.map (·.1)⟩ M x7) ⟨ids.ip,ids.im,ids.ii,kz.map (·.2)⟩)) rfl ⟨rfl,rfl⟩ ?_;exact iG.fin m u bu M
/-! ### Rounds, without the numbers -/
def jR (l:List ah) (n:Bs):Bool:=!(l.any fun t=>t.aa==n)&&!cV n
def gH (g:Bs->Bool) (s:Sl Z7):Sl Z7:=⟨s.nl,s.l.filter fun x=>!(g x.av.aa&&qa x)⟩
def tY (g:Bs->Bool) (s:Sl Z7):Bool:=s.l.any fun x=>g x.av.aa&&!qa x
def qb (g:Bs->Bool) (s:Sl Z7):Bool:=decide ((((gH g s).l.length:Nat):Int)<((s.l.length:Nat):Int))
def gJ (g:Bs->Bool):List Z6->Bool->List Z6×Bool
 | [],ch=>([],ch)
 | f::l,ch=>bif tY g f.ay||g f.av.aa then gJ g l true
  else(Z6.mk f.aa (gH g f.ay) f.av f.bf::(gJ g l (ch||qb g f.ay)).1,(gJ g l (ch||qb g f.ay)).2)
def tZ (g:Bs->Bool) (t:ah):Sl Z8:=bif decide (t.ai=(3:Int)) then⟨t.ax.nl,t.ax.l.filter fun x=>!g x.aa⟩ else t.ax
def xz (g:Bs->Bool) (t:ah):Sl Bs:=⟨t.aM.nl,t.aM.l.filter fun x=>!g x⟩
def t_ (g:Bs->Bool) (t:ah) (ch:Bool):Bool:=((gJ g t.aq.l ch).2||qb g t.aF)||decide ((((tZ g t).l.length:Nat):Int)+(((xz g t).l.length:Nat):Int)<((t.ax.l.length:Nat):Int)+((t.aM.l.length:Nat):Int))
def ua (g:Bs->Bool) (t:ah) (ch:Bool):List Z6:=(gJ g t.aq.l ch).1
def jG (g:Bs->Bool) (t:ah) (ch:Bool):ah:=ah.mk t.ai t.aa (xz g t) t.bf ⟨(ua g t ch).isEmpty,ua g t ch⟩ (tZ g t) (gH g t.aF)
def oM (g:Bs->Bool) (t:ah) (ch:Bool):Bool :=
 bif (bif decide (t.ai=(1:Int)) then decide (t.ai=(1:Int)) else decide (t.ai=(2:Int))) then decide ((0:Int)<(((ua g t ch).length:Nat):Int)) else
 bif (bif decide (t.ai=(3:Int)) then decide (t.ai=(3:Int)) else decide (t.ai=(4:Int))) then decide ((0:Int)<(((tZ g t).l.length:Nat):Int)) else
 (!tY g t.aF)&&decide ((0:Int)<(((gH g t.aF).l.length:Nat):Int))
def kB (g:Bs->Bool):List ah->Bool->List ah×Bool
 | [],ch=>([],ch)
 | t::l,ch=>bif oM g t ch then(jG g t ch::(kB g l (t_ g t ch)).1,(kB g l (t_ g t ch)).2) else kB g l true
section
variable {d:jd}{g:Bs->Bool}
theorem XI (hg:∀b n,fW ⟨d,b⟩ n=g n) (x:Z7) (b:Bool):yc x ⟨d,b⟩=(g x.av.aa&&!qa x):=by
 unfold yc; rw [hg]; simp only [on]; cases g x.av.aa<;>rfl
theorem XJ (hg:∀b n,fW ⟨d,b⟩ n=g n) (x:Z7) (b:Bool):rO x ⟨d,b⟩=(g x.av.aa&&qa x):=by
 unfold rO; rw [hg]; simp only [on]; cases g x.av.aa<;>rfl
theorem NA (hg:∀b n,fW ⟨d,b⟩ n=g n) (s:Sl Z7) (b:Bool):lE ⟨d,b⟩ s=(gH g s,tY g s,⟨d,b||qb g s⟩):=by
 unfold lE gH tY qb gH;simp only [XI hg,XJ hg]
theorem Aw (hg:∀b n,fW ⟨d,b⟩ n=g n):∀(l:List Z6) (ch:Bool),gL d l ch=gJ g l ch
 | [],ch=>rfl
 | f::l,ch=>by
  rw [gL,gJ,NA hg,hg,Aw hg l,Aw hg l]
theorem Ax (hg:∀b n,fW ⟨d,b⟩ n=g n) (t:ah) (ch:Bool):oS ⟨d,ch⟩ t=(gH g t.aF,tY g t.aF,⟨d,(gJ g t.aq.l ch).2||qb g t.aF⟩):=by
 unfold oS; rw [Aw hg,NA hg]
theorem GB (hg:∀b n,fW ⟨d,b⟩ n=g n) (t:ah) (ch:Bool):nA ⟨d,ch⟩ t=tZ g t:=by
 unfold nA tZ; rw [Ax hg]; unfold nx; simp only [on,hg]
theorem NB (hg:∀b n,fW ⟨d,b⟩ n=g n) (t:ah) (ch:Bool):yf ⟨d,ch⟩ t=xz g t:=by
 unfold yf xz; rw [Ax hg]; simp only [hg]
theorem GC (hg:∀b n,fW ⟨d,b⟩ n=g n):∀(l:List ah) (ch:Bool),iF d l ch=kB g l ch
 | [],ch=>rfl
 | t::l,ch=>by
  have h1:oU ⟨d,ch⟩ t=oM g t ch:=by unfold oU oM vF ua; rw [Aw hg,GB hg,Ax hg]
  have f:nC ⟨d,ch⟩ t=jG g t ch:=by unfold nC jG vF ua; rw [Aw hg,GB hg,Ax hg,NB hg]
  have j:jU ⟨d,ch⟩ t=t_ g t ch:=by unfold jU t_; rw [GB hg,Ax hg,NB hg]
  rw [iF,kB,h1,f,j,GC hg l,GC hg l]
end
theorem NC (n:Bs):∀l:List cT,(match rL n l with|.inl _=>false|.inr e=>e.2)=l.any fun t=>t.aa==n
 | []=>rfl
 | t::l=>by
  rw [rL];simp only [on];cases h:t.aa==n
  ·simp only [cond_false,List.any_cons,h,Bool.false_or]; exact NC n l
  simp [h]
theorem XK (s:Sl (ah×bY)) (b:Bool) (n:Bs):fW ⟨eO s,b⟩ n=jR (s.l.map (·.1)) n:=by
 have h:=NC n (s.l.map fun p=>fm p.1 p.2);have f:((s.l.map fun p=>fm p.1 p.2).any fun t=>t.aa==n)=((s.l.map (·.1)).any fun t=>t.aa==n):=by rw [List.any_map,List.any_map]; rfl
 unfold fW CW jR;rw [<- f,<- h];unfold eO;simp only [on];cases rL n (s.l.map fun p=>fm p.1 p.2) with
 | inl _=>rfl
 | inr e=>rcases e with ⟨j,g⟩; cases g<;>rfl
def gv (l:List ah):List ah×Bool:=kB (jR l) l false
theorem round_eq (s:Sl (ah×bY)):iF (eO s) (s.l.map (·.1)) false=gv (s.l.map (·.1)):=GC (fun b n=>XK s b n) _ _
def xC (t:ah):Bool:=decide (t.aq.l.length<=1000000)&&(decide (t.ax.l.length<=1000000)&&decide (t.aM.l.length<=1000000))
def jS (l:List ah):Bool:=decide (l.length<=1000000)&&l.all xC
theorem ND {l:List ah}(h:jS l=true):l.length<=1000000/\∀t∈l,t.aq.l.length<=1000000/\t.ax.l.length<=1000000/\t.aM.l.length<=1000000:=by
 unfold jS at h;obtain⟨h1,f⟩:=Bool.and_eq_true_iff.1 h;refine⟨oD h1,fun t ht=>?_⟩;have b:=List.all_eq_true.1 f t ht;unfold xC at b;obtain⟨g,j⟩:=Bool.and_eq_true_iff.1 b;obtain⟨k,m⟩:=Bool.and_eq_true_iff.1 j;exact⟨oD g,oD k,oD m⟩
/-! ### The whole schema becomes data again -/
noncomputable def GD (d:ak) (b:Bool):List D:=[Sl.d 7 ah.c none d.aj,.bool b]
theorem Th.field {O:List (Nat×Ab.Obj)}{j j':J}{w:World}(b:sA O j w j'){p:Z6×Nat}(hm:(p.2,jf p.1)∈O):aW (Th j w j') (eu p) (Z6.c p.1) :=
 .cons (Th.same b.1 _) (.cons (Th.arr b hm (List.length_map _).symm) (Th.list b.1 _))
theorem Th.fields {O:List (Nat×Ab.Obj)}{j j':J}{w:World}(b:sA O j w j'){l:List Z6}{ks:List Nat}{nl:Bool}(hl:ks.length=l.length) (hm:∀p∈l.zip ks,(p.2,jf p.1)∈O):Th j w j' (Sl.d 5 eu none ⟨nl,l.zip ks⟩) (Sl.d 5 Z6.c none ⟨nl,l⟩):=by
 have e:l=(l.zip ks).map (·.1):=(List.map_fst_zip (by omega)).symm;have h:Th j w j' (.slice 5 none nl ((l.zip ks).map eu)) (.slice 5 none nl ((l.zip ks).map fun p=>Z6.c p.1)) :=
  Th.rows b.1 (fun r hr=>by obtain⟨p,_,rfl⟩:=List.mem_map.1 hr; rfl) (DY fun p f=>Th.field b (hm p f))
 have g:((l.zip ks).map fun p=>Z6.c p.1)=l.map Z6.c:=by
  conv=>rhs; rw [e,List.map_map]
  rfl
 rw [g] at h; exact h
theorem Th.XL {O:List (Nat×Ab.Obj)}{j j':J}{w:World}(b:sA O j w j'){t:ah}{i:bY}(hl:i.fs.length=t.aq.l.length) (hm:∀q∈fE t i,q∈O):aW (Th j w j') (cT.c (fm t i)) (ah.c t) :=
 .cons (Th.same b.1 _) (.cons (Th.same b.1 _) (.cons (Th.arr b (hm _ (by simp [fE])) (List.length_map _).symm) (.cons (Th.same b.1 _)
  (.cons (Th.fields b hl fun p f=>hm _ (by unfold fE; simp only [List.mem_cons,List.mem_map]; exact .inr (.inr (.inr ⟨p,f,rfl⟩)))) (.cons (Th.arr b (hm _ (by simp [fE])) (List.length_map _).symm) (.cons (Th.arr b (hm _ (by simp [fE])) (List.length_map _).symm) .nil))))))
theorem Th.qf {O:List (Nat×Ab.Obj)}{j j':J}{w:World}(b:sA O j w j'){L:List (ah×bY)}{nl ch:Bool}(hl:∀p∈L,p.2.fs.length=p.1.aq.l.length) (hm:∀p∈L,∀q∈fE p.1 p.2,q∈O) :
  aW (Th j w j') (cQ.c ⟨eO ⟨nl,L⟩,ch⟩) (GD ⟨⟨nl,L.map (·.1)⟩⟩ ch):=by
 have h:Th j w j' (.slice 7 none nl (L.map fun p=>cT.c (fm p.1 p.2))) (.slice 7 none nl (L.map fun p=>ah.c p.1)) :=
  Th.rows b.1 (fun r hr=>by obtain⟨p,_,rfl⟩:=List.mem_map.1 hr; rfl) (DY fun p f=>Th.XL b (hl p f) (hm p f))
 have g:(L.map fun p=>cT.c (fm p.1 p.2))=(L.map fun p=>fm p.1 p.2).map cT.c:=by rw [List.map_map]; rfl
 have k:(L.map fun p=>ah.c p.1)=(L.map (·.1)).map ah.c:=by rw [List.map_map]; rfl
 rw [g,k] at h;exact .cons h (.cons (Th.same b.1 _) .nil)
theorem NE {t:ah}{i:bY}(h:i.fs.length=t.aq.l.length):(fE t i).map (·.1)=i.all:=by
 unfold fE bY.all;simp only [List.map_cons,List.map_map];have:((fun p:Nat×Ab.Obj=>p.1) ∘ fun p:Z6×Nat=>(p.2,jf p.1))=fun p=>p.2:=rfl;rw [this,List.map_snd_zip (by omega)]
theorem XM {L:List (ah×bY)}(h:∀p∈L,p.2.fs.length=p.1.aq.l.length):(L.flatMap fun p=>fE p.1 p.2).map (·.1)=L.flatMap (·.2.all):=by
 induction L with
 | nil=>rfl
 | cons p L b =>
  rw [List.flatMap_cons,List.flatMap_cons,List.map_append,b fun q hq=>h q (.tail _ hq),NE (h p (.head _))]
theorem ig.own {B:af}{t:ah}{i:bY}(h:ig B t i):∀q∈fE t i,B q.1=some q.2/\∃k rows,q.2=.arr k rows:=fun q hq=>by
 unfold fE at hq;simp only [List.mem_cons,List.mem_map] at hq;rcases hq with rfl|rfl|rfl|⟨p,b,rfl⟩
 ·exact⟨h.ip,_,_,rfl⟩
 ·exact⟨h.im,_,_,rfl⟩
 ·exact⟨h.ii,_,_,rfl⟩
 exact⟨h.fs p b,_,_,rfl⟩
/-! ### The first step for all definitions, the rounds -/
def rD (a0:Z2) (a2:Sl Bs):List ah->Option (List ah)
 | []=>some []
 | t::l=>(jt t.bf).bind fun x=>bif !tX x a2 then(p_ a0 t).bind fun y=>(rD a0 a2 l).bind fun r=>some (y::r) else rD a0 a2 l
def oN:Nat->List ah->Option (List ah)
 | 0,_=>none
 | n+1,l=>bif jS l then bif (gv l).2 then oN n (gv l).1 else some (gv l).1 else none
def NG (n:Nat) (ch:Bool) (l:List ah):Option (List ah):=bif ch then oN n l else some l
def Aa (a0:ak) (k:(Sl Bs)) (g:(Sl Bs)):Option (ak×(Sl Z5)) :=
 bif jS a0.aj.l then(rD ⟨k,g⟩ g a0.aj.l).bind fun j=>(oN F0 j).bind fun b=>(CT (ak.mk ⟨b.isEmpty,b⟩)).bind fun f=>bif (decide ((0:Int)<((f.l.length:Nat):Int))) then(some ((ak.mk Sl.nil),f)) else(some ((ak.mk ⟨b.isEmpty,b⟩),(Sl.nil:Sl Z5))) else none
def zg (a0:ak) (b:(Sl Bs)) (f:(Sl Bs)):Option (ak×(Sl Z5)):=Aa a0 b f
/-- The definitions made so far, their slices, and what is as it was. -/
structure oZ (H:af) (tk:Nat) (kz:List (ah×bY)) (B:af):Prop where
 bu:B tk=some (.tok 7 kz.length)
 own:∀p∈kz,ig B p.1 p.2
 nd:(tk::kz.flatMap (·.2.all)).Nodup
 new:∀p∈kz,∀x∈p.2.all,H x=none
 e8:∀x,H x≠none->B x=H x
noncomputable def Ay (tk:Nat) (kz:List (ah×bY)):List D:=[Sl.d 7 cT.c (some tk) ⟨kz.isEmpty,kz.map aP⟩,.bool false]
/-- Fresh numbers for a definition. -/
theorem rQ.of {B:af}{t:ah}{ks:List Nat}{a b c:Nat}(hl:ks.length=t.aq.l.length) (hn:ks.Nodup) (w:∀x∈ks,B x=none) (m:kJ B 10 ks a=none) (f:((kJ B 10 ks).set a (some (.arr 1 []))) b=none)
  (hc:(((kJ B 10 ks).set a (some (.arr 1 []))).set b (some (.arr 2 []))) c=none) :
  rQ ((((kJ B 10 ks).set a (some (.arr 1 []))).set b (some (.arr 2 []))).set c (some (.arr 10 []))) t ⟨a,b,c,ks⟩/\(∀x∈(bY.mk a b c ks).all,B x=none) /\
   (∀x,x∉(bY.mk a b c ks).all->((((kJ B 10 ks).set a (some (.arr 1 []))).set b (some (.arr 2 []))).set c (some (.arr 10 []))) x=B x):=by
 have g:∀x,x∈ks->kJ B 10 ks x=some (.arr 10 []):=fun x hx=>if_pos hx;have j:∀x,x∉ks->kJ B 10 ks x=B x:=fun x hx=>if_neg hx;have p:b≠a:=fun e=>by rw [e,af.aT] at f; cases f
 have q:c≠b:=fun e=>by rw [e,af.aT] at hc; cases hc
 rw [af.aQ _ _ q] at hc;have r:c≠a:=fun e=>by rw [e,af.aT] at hc; cases hc
 rw [af.aQ _ _ r] at hc;rw [af.aQ _ _ p] at f;have s:a∉ks:=fun h=>by rw [g a h] at m; cases m
 have u:b∉ks:=fun h=>by rw [g b h] at f; cases f
 have v:c∉ks:=fun h=>by rw [g c h] at hc; cases hc
 refine⟨⟨hl, ?_, ?_,af.aT _ _ _,fun k hk=>?_, ?_⟩,fun x hx=>?_,fun x hx=>?_⟩
 ·dsimp only; rw [af.aQ _ _ (fun e=>r e.symm),af.aQ _ _ (fun e=>p e.symm),af.aT]
 ·dsimp only; rw [af.aQ _ _ (fun e=>q e.symm),af.aT]
 ·dsimp only at hk;rw [af.aQ _ _ (fun e=>v (by rw [<- e]; exact hk)),af.aQ _ _ (fun e=>u (by rw [<- e]; exact hk)),af.aQ _ _ (fun e=>s (by rw [<- e]; exact hk)),g k hk]
 ·simp only [bY.all,List.nodup_cons,List.mem_cons,not_or];exact⟨⟨fun e=>p e.symm,fun e=>r e.symm,s⟩,⟨fun e=>q e.symm,u⟩,v,hn⟩
 ·simp only [bY.all,List.mem_cons] at hx;rcases hx with rfl|rfl|rfl|hx
  ·rw [<- j _ s]; exact m
  ·rw [<- j _ u]; exact f
  ·rw [<- j _ v]; exact hc
  exact w x hx
 simp only [bY.all,List.mem_cons,not_or] at hx;obtain⟨h1,y,z,C⟩:=hx;rw [af.aQ _ _ z,af.aQ _ _ y,af.aQ _ _ h1,j x C]
theorem GF {a0:Z2}{x3:Sl Bs}: ∀(l:List Z6) (ks:List Nat) (y b:ah),ks.length=l.length->jF a0 x3 l y=some b->b.aq.l.length=y.aq.l.length+(vG a0 x3 l ks).length
 | [],ks,y,b,_,h=>by rw [jF] at h; obtain rfl:=oJ h; simp [vG]
 | f::l,[],y,b,hl,h=>by cases hl
 | f::l,k::ks,y,b,hl,h=>by
  rw [jF] at h;simp only [on] at h;obtain⟨s,h1,h⟩:=bx h;obtain⟨j,p,h⟩:=bx h;have g:oV a0 x3 f=nr a0 j:=by unfold oV; rw [h1,oB,p]
  have m:ks.length=l.length:=by simpa using hl
  cases e:nr a0 j with
  | true =>
   rw [e] at h g;simp only [cond_true] at h;obtain⟨z,hz,h⟩:=bx h;obtain⟨t,_,hz⟩:=bx hz;obtain⟨u,_,hz⟩:=bx hz;obtain⟨v,_,hz⟩:=bx hz;obtain⟨w,q,hz⟩:=bx hz;obtain rfl:=oJ hz;obtain⟨r,_,_⟩:=A3 q;rw [GF l ks _ _ m h];subst r;unfold vG;rw [List.zip_cons_cons,List.filter_cons,if_pos g];simp; omega
  | false =>
   rw [e] at h g;simp only [cond_false,oB] at h;rw [GF l ks _ _ m h];unfold vG;rw [List.zip_cons_cons,List.filter_cons,if_neg (by simp [g])]
theorem NH {a0:Z2}{f:ah}{x3:Sl Bs}: ∀(l:List Z8) (y b:ah),gG a0 f x3 l y=some b->b.aq=y.aq
 | [],y,b,h=>by rw [gG] at h; obtain rfl:=oJ h; rfl
 | m::l,y,b,h=>by
  rw [gG] at h;simp only [on] at h;obtain⟨j,_,h⟩:=A4 h;obtain⟨g,_,h⟩:=A4 h;obtain⟨z,hz,h⟩:=bx h;rw [NH l _ _ h]
  revert hz
  cases ((!decide (f.ai=(4:Int)))||(bif !(!decide (f.ai=(4:Int))) then nr a0 g else false)) with
  | true =>
   intro hz;simp only [cond_true] at hz;obtain⟨k,_,hz⟩:=bx hz;obtain⟨p,_,hz⟩:=bx hz;obtain rfl:=oJ hz; rfl
  | false=>intro hz; simp only [cond_false] at hz; obtain rfl:=oJ hz; rfl
theorem XN {a0:Z2}{a1 r:ah}{i:bY}(h:p_ a0 a1=some r) (hl:i.fs.length=a1.aq.l.length):(lG a0 a1 i).fs.length=r.aq.l.length:=by
 unfold p_ zV at h;obtain⟨x3,b,h⟩:=bx h;obtain⟨x5,_,h⟩:=bx h;obtain⟨g,_,h⟩:=bx h;obtain⟨x7,_,h⟩:=bx h;obtain⟨z,hz,h⟩:=bx h;simp only [on] at h;obtain⟨z2,f,h⟩:=bx h;obtain rfl:=oJ h;unfold lG;rw [b];dsimp only;rw [NH _ _ _ f,GF _ _ _ _ hl hz];simp [Sl.nil]
theorem XO {a0:Z2}{a1:ah}{i:bY}(hl:i.fs.length=a1.aq.l.length) (hn:i.all.Nodup):(∀x∈(lG a0 a1 i).all,x∈i.all)/\(lG a0 a1 i).all.Nodup:=by
 have b:(lG a0 a1 i).all.Sublist i.all:=by
  unfold lG;cases jt a1.bf with
  | none=>exact List.Sublist.refl _
  | some x3 =>
   dsimp only;unfold bY.all vG;refine List.Sublist.cons_cons _ (List.Sublist.cons_cons _ (List.Sublist.cons_cons _ ?_));have:=List.Sublist.map (·.2) (List.filter_sublist (l:=a1.aq.l.zip i.fs) (p:=fun p=>oV a0 x3 p.1))
   rwa [List.map_snd_zip (by omega)] at this
 exact⟨fun x hx=>b.subset hx,b.nodup hn⟩
theorem oZ.start {H:af}{tk:Nat}(hk:H tk=none):oZ H tk [] (H.set tk (some (.tok 7 0))) :=
 ⟨af.aT _ _ _,fun p b=>(by cases b),by simp,fun p b=>(by cases b),fun x hx=>by rw [af.aQ _ _ (fun e=>hx (by rw [e]; exact hk))]⟩
theorem oZ.next {H:af}{tk:Nat}{kz:List (ah×bY)}{B j:af}(h:oZ H tk kz B) (y:H tk=none){r:ah}{i f:bY}(hn:∀x∈i.all,B x=none) (hk:∀x,x∉i.all->j x=B x) (q:∀x∈f.all,x∈i.all) (s:f.all.Nodup) (hl:f.fs.length=r.aq.l.length) :
  mh j (fE r f) tk=some (.tok 7 kz.length)/\oZ H tk (kz++[(r,f)]) ((mh j (fE r f)).set tk (some (.tok 7 (kz++[(r,f)]).length))):=by
 have t:=NE hl;have out:∀x,B x≠none->x∉f.all/\mh j (fE r f) x=B x:=fun x hx=>by
  have h1:x∉i.all:=fun hm=>hx (hn x hm);have u:x∉f.all:=fun hm=>h1 (q x hm);exact⟨u,by rw [Ny (by rw [t]; exact u),hk x h1]⟩
 have v:=out tk (by rw [h.bu]; simp);obtain⟨m1,z⟩:=List.nodup_cons.1 h.nd;have k:((fE r f).map (·.1)).Nodup:=by rw [t]; exact s
 have C:∀x∈f.all,H x=none:=fun x hx=>by
  cases e:H x with
  | none=>rfl
  | some o=>have h1:=hn x (q x hx); rw [h.e8 x (by rw [e]; simp),e] at h1; cases h1
 have E:ig (mh j (fE r f)) r f:=⟨hl,Av (p:=(f.ip,_)) k (by simp [fE]),Av (p:=(f.im,_)) k (by simp [fE]),Av (p:=(f.ii,_)) k (by simp [fE]),fun p g =>
  Av (p:=(p.2,jf p.1)) k (by unfold fE; simp only [List.mem_cons,List.mem_map]; exact .inr (.inr (.inr ⟨p,g,rfl⟩)))⟩
 have i0:∀x∈f.all,x≠tk:=fun x hx e=>v.1 (e▸hx);have w:∀p∈kz,∀x∈p.2.all,x≠tk/\x∉f.all/\mh j (fE r f) x=B x:=fun p g x hx=>by
  have hm:x∈kz.flatMap (·.2.all):=List.mem_flatMap.2 ⟨p,g,hx⟩;obtain⟨a,b⟩:=out x ((h.own p g).ne x hx);exact⟨fun e=>m1 (e▸hm),a,b⟩
 refine⟨v.2.trans h.bu,af.aT _ _ _,fun p g=>?_, ?_,fun p g x hx=>?_,fun x hx=>?_⟩
 ·rcases List.mem_append.1 g with g|g
  ·exact(h.own p g).congr fun x hx=>by obtain⟨b,c,d⟩:=w p g x hx; rw [af.aQ _ _ b,d]
  obtain rfl:=List.mem_singleton.1 g;exact E.congr fun x hx=>by rw [af.aQ _ _ (i0 x hx)]
 ·rw [List.flatMap_append];have e:([(r,f)]:List (ah×bY)).flatMap (·.2.all)=f.all:=by simp
  rw [e];refine List.nodup_cons.2 ⟨fun hm=>?_,List.nodup_append.2 ⟨z,s,fun a F b m e=>?_⟩⟩
  ·rcases List.mem_append.1 hm with hm|hm
   ·exact m1 hm
   exact i0 _ hm rfl
  obtain⟨p,g,hx⟩:=List.mem_flatMap.1 F;exact(w p g a hx).2.1 (e▸m)
 ·rcases List.mem_append.1 g with g|g
  ·exact h.new p g x hx
  obtain rfl:=List.mem_singleton.1 g; exact C x hx
 have m:=h.e8 x hx;rw [af.aQ _ _ (fun e=>hx (by rw [e]; exact y)),(out x (by rw [m]; exact hx)).2,m]
/-- The schema of a round, its slices, and what is as it was. -/
structure yh (H:af) (c0:Nat) (L:List (ah×bY)) (ch:Bool) (B:af):Prop where
 b7:B c0=some (.cells (cQ.c ⟨eO ⟨L.isEmpty,L⟩,ch⟩))
 own:∀p∈L,ig B p.1 p.2
 nd:(c0::L.flatMap (·.2.all)).Nodup
 new:∀p∈L,∀x∈p.2.all,H x=none
 e8:∀x,H x≠none->B x=H x
theorem oZ.round {H:af}{c0 tk:Nat}{kz:List (ah×bY)}{B:af}(h:oZ H tk kz B) (h0:B c0=none):H c0=none/\yh H c0 kz false (B.set c0 (some (.cells (cQ.c ⟨eO ⟨kz.isEmpty,kz⟩,false⟩)))):=by
 obtain⟨m1,g⟩:=List.nodup_cons.1 h.nd;have hH:H c0=none:=by
  cases e:H c0 with
  | none=>rfl
  | some o=>rw [h.e8 c0 (by rw [e]; simp),e] at h0; cases h0
 have f:∀p∈kz,∀x∈p.2.all,x≠c0:=fun p b x hx e=>(h.own p b).ne x hx (e▸h0);exact⟨hH,af.aT _ _ _,fun p b=>(h.own p b).congr fun x hx=>af.aQ _ _ (f p b x hx),List.nodup_cons.2 ⟨fun hm=>by obtain⟨p,b,hx⟩:=List.mem_flatMap.1 hm; exact f p b c0 hx rfl,g⟩,h.new,
  fun x hx=>by rw [af.aQ _ _ (fun e=>hx (by rw [e]; exact hH))]; exact h.e8 x hx⟩
theorem yh.next {H:af}{c0:Nat}{L:List (ah×bY)}{ch:Bool}{B h':af}(h:yh H c0 L ch B) (h0:H c0=none) (b:Gx B h' c0 L (eO ⟨L.isEmpty,L⟩)) :
  ∃L',yh H c0 L' (gv (L.map (·.1))).2 h'/\L'.map (·.1)=(gv (L.map (·.1))).1:=by
 obtain⟨⟨L',g1,g2,g3,g4,g5⟩,g6⟩:=b;rw [round_eq ⟨L.isEmpty,L⟩] at g1 g2;refine⟨L',⟨g1,g3,g4,fun p b x hx=>?_,fun x hx=>?_⟩,g2⟩
 ·rcases g5 p b x hx with hm|hm
  ·obtain⟨q,hq,f⟩:=List.mem_flatMap.1 hm;exact h.new q hq x f
  cases e:H x with
  | none=>rfl
  | some o=>rw [h.e8 x (by rw [e]; simp),e] at hm; cases hm
 have g:=h.e8 x hx;rw [g6 x (fun e=>hx (by rw [e]; exact h0)) (fun hm=>by obtain⟨q,hq,f⟩:=List.mem_flatMap.1 hm; exact hx (h.new q hq x f)) (by rw [g]; exact hx),g]
theorem NI {n:Nat}{l r:List ah}(h:oN n l=some r):∃m,m<n/\jS l=true/\NG m (gv l).2 (gv l).1=some r:=by
 cases n with
 | zero=>cases h
 | succ n =>
  rw [oN] at h;cases e:jS l with
  | false=>rw [e] at h; cases h
  | true=>rw [e] at h; exact⟨n,nS _,rfl,h⟩
theorem NJ {L:List (ah×bY)}(h:jS (L.map (·.1))=true):(∀p∈L,p.1.aq.l.length<=1000000/\p.1.ax.l.length<=1000000/\p.1.aM.l.length<=1000000)/\L.length<=1000000:=by
 obtain⟨h1,b⟩:=ND h;rw [List.length_map] at h1;exact⟨fun p f=>b p.1 (List.mem_map_of_mem f),h1⟩
theorem Eo {a0 E u aD aE oT gT r}(g:Aa a0 E u=some r) (H:af) (ao:H gT=some oT) (aF:iw Tryz.prog oT):At 7 [.agg (ak.c a0),.d (Sl.d 1 aG aD E),.d (Sl.d 1 aG aE u)] H (RT (.cL [.agg (ak.c r.1),.d (Sl.d 2 Z5.c none r.2)]) H):=by
 unfold Aa at g;cases Y:jS a0.aj.l with
 | false=>rw [Y] at g; cases g
 | true =>
 rw [Y,cond_true] at g;obtain⟨R,aH,g⟩:=bO g;obtain⟨Z,aI,g⟩:=bO g;obtain⟨br,aJ⟩:=ND Y;refine AC.oW 68 [.cell 6 24,.tmp 7] Tryz.call7 Tryz.func7 ?_;refine Y3 ?_;refine s0 (dM (k':=2) rfl) rfl ?_;refine Y4 ?_;refine aK.eF 13 rfl ?_;refine aK.eF 14 rfl ?_;refine Y4 ?_;refine bC 8 _ rfl (kl [2,3,6]) ?_;refine Y2 ?_
 refine sE (dm.yD rfl) rfl (fun _ _ _ ⟨c0,b7,J,K,aL⟩=>?_);subst J K aL;refine Y2 ?_;refine ag.DZ 9 rfl (af.aT _ _ _) ?_;refine ag.j7 (h':=H) (af.NX _ _ _ b7) ?_;refine ag.tok 7 fun y ap=>?_;refine ag.cU 1 (Ay y []) rfl (fun j w cs hh hx=>by exact tok_cell (xs:=GD ak.zero false) 0 7 7 hh (t:=y) (af.aT _ _ _) hx rfl) ?_;have au:=oZ.start ap
 generalize H.set y (some (.tok 7 0))=aM at au ⊢;refine dS (tl [6,9]) (fun(z:List (ah×bY)×af)=>[]) (fun z=>[[D.slice 7 none true []],Ay y z.1]) (fun z=>z.2) (fun z=>oZ H y z.1 z.2/\z.1.map (·.1)=R) ?_ ?_
 ·intro bs aR;refine Y3 ?_;refine aU ah.c a0.aj fun bt=>Y3 ?_;refine gz (tl [2,6,8,9,19,20]) (fun(z:List (ah×bY)×Nat×af)=>[(21,vi z.2.1)]) (fun z=>[[D.slice 7 none true []],Ay y z.1]) (fun z=>z.2.2) (fun z=>a0.aj.l.length-z.2.1)
   (fun z=>oZ H y z.1 z.2.2/\z.1.length<=z.2.1/\z.2.1<=a0.aj.l.length/\∃rest,rD ⟨E,u⟩ u (a0.aj.l.drop z.2.1)=some rest/\z.1.map (·.1)++rest=R) ([],0,aM) ⟨au,Nat.le_refl _,Nat.zero_le _,R,aH,rfl⟩ wA ?_
  rintro ⟨kz,i,B⟩ ⟨G,I,aV,rest,k,S⟩ bu aW;dsimp only at G I aV k S;refine Y3 ?_;refine ar fun bv aX=>?_;refine ag.cond rfl (fun hc=>?_) (fun hc=>?_)
  ·dsimp only at hc;have hi:i<a0.aj.l.length:=by have:=oD hc; omega
   obtain⟨t,hx⟩:∃p,a0.aj.l[i]?=some p:=⟨_,List.getElem?_eq_getElem hi⟩;have aY:a0.aj.l.drop i=t::a0.aj.l.drop (i+1):=by rw [List.drop_eq_getElem_cons hi]; congr 1; exact(List.getElem?_eq_some_iff.1 hx).2
   rw [aY,rD] at k;obtain⟨aZ,_,_⟩:=aJ t (List.mem_of_getElem? hx);refine sk aX (dS (tl [2,6,8,9,19,20,21]) (fun(z:List (ah×bY)×af)=>[]) (fun z=>[[D.slice 7 none true []],Ay y z.1]) (fun z=>z.2) (fun z=>oZ H y z.1 z.2/\z.1.length<=i+1/\∃rest,rD ⟨E,u⟩ u (a0.aj.l.drop (i+1))=some rest/\z.1.map (·.1)++rest=R) ?_ ?_)
   ·intro bw av;refine Y2 ?_;refine s0 (A5 (f:=ah.c) (n:=i) (s:=a0.aj) (TK rfl) rfl (TK rfl) rfl rfl rfl hx) rfl ?_;refine Y4 ?_;refine bC 11 _ rfl (kl [2,6,8,9,19,20,21]) ?_;refine Y3 ?_;obtain⟨bA,a1,k⟩:=qT rfl k;refine Sc rfl rfl (vD a1) (Y1 ?_);refine s0 (j6 rfl rfl (fun H=>F8 rfl H)) rfl ?_;refine Y2 ?_;refine ag.cond rfl (fun aa=>?_) (fun aa=>?_)
    ·rw [aa,cond_true] at k;obtain⟨U,aw,k⟩:=bx k;obtain⟨ab,W,k⟩:=bx k;obtain rfl:=oJ k;refine ag.Ii 10 t.aq.l.length fun ks a2 a3 a4=>?_;refine ag.sw 1 fun M a5=>?_;refine ag.sw 2 fun N a6=>?_;refine ag.sw 10 fun O a7=>?_;obtain⟨P,a8,ax⟩:=rQ.of a2 a3 a4 a5 a6 a7
     generalize (((kJ B 10 ks).set M (some (.arr 1 []))).set N (some (.arr 2 []))).set O (some (.arr 10 []))=a9 at P ax ⊢;obtain⟨a_,a'⟩:=XO (a0:=⟨E,u⟩) P.len P.nd;obtain⟨ba,X⟩:=G.next ap a8 ax a_ a' (XN aw P.len);refine ag.draw rfl ?_;refine Y2 ?_;refine aN.s0 (Hp rfl) rfl ?_;refine Y5 ?_;refine aN.sH (bV rfl rfl (XH (a0:=⟨E,u⟩) aw P aZ)) rfl ?_
     refine Y1 ?_;refine aN.sH (jy (f:=cT.c) (s:=⟨kz.isEmpty,kz.map aP⟩) (r:=⟨false,[aP (U,lG ⟨E,u⟩ t ⟨M,N,O,ks⟩)]⟩) (TK rfl) rfl (TK rfl) (TK rfl) ⟨_,rfl⟩ rfl rfl (by decide) rfl rfl rfl rfl ba (by simp) (Gy (z:=144) (by unfold cA; omega))) rfl ?_
     refine aN.fH (h':=(mh a9 (fE U (lG ⟨E,u⟩ t ⟨M,N,O,ks⟩))).set y (some (.tok 7 (kz++[(U,lG ⟨E,u⟩ t ⟨M,N,O,ks⟩)]).length))) (by rw [List.length_map]) ?_;refine aN.s0 (Hp rfl) rfl ?_;refine Y2 ?_;refine aN.iT (mr (TK rfl) rfl rfl rfl rfl (by repeat (first|exact bE.zero|apply bE.succ)) (by repeat (first|exact bE.zero|apply bE.succ))) ?_;refine Y1 ?_
     exact av _ (kz++[(U,lG ⟨E,u⟩ t ⟨M,N,O,ks⟩)],_) wA ⟨X,by rw [List.length_append]; exact Nat.succ_le_succ I,ab,W,by rw [List.map_append,List.append_assoc]; exact S⟩
    rw [aa,cond_false] at k;refine ag.skip ?_;exact av _ (kz,B) wA ⟨G,Nat.le_succ_of_le I,rest,k,S⟩
   rintro ⟨bb,bc⟩ ⟨X,ay,ab,W,aA⟩;dsimp only at X ay W aA;refine Y1 ?_;refine s0 (qn rfl rfl (by dsimp only; omega) (by dsimp only; omega)) rfl ?_;refine Y2 ?_;exact aW _ (bb,i+1,bc) wA ⟨X,ay,hi,ab,W,aA⟩ (by show a0.aj.l.length-(i+1)<a0.aj.l.length-i; omega)
  dsimp only at hc;have bd:i=a0.aj.l.length:=by have:=of_decide_eq_false hc; omega
  rw [bd,List.drop_length,rD] at k;obtain rfl:=oJ k;refine ag.exit ?_;exact aR _ (kz,B) wA ⟨G,by rw [<- S,List.append_nil]⟩
 rintro ⟨kz,B⟩ ⟨G,I⟩;dsimp only at G I;subst I;refine ag.cU 1 (cQ.c ⟨eO ⟨kz.isEmpty,kz⟩,false⟩) rfl (fun j w cs hh hx=>by exact kH (xs:=Ay y kz) 0 hx rfl) ?_;refine ag.D0 (ls:=[[D.slice 7 none true []]]) 9 rfl (kl [6]) fun c0 b7=>?_;obtain⟨b7,b⟩:=G.round b7;have be:c0≠gT:=fun bf=>by rw [bf,ao] at b7; cases b7
 generalize B.set c0 (some (.cells (cQ.c ⟨eO ⟨kz.isEmpty,kz⟩,false⟩)))=bB at b ⊢;refine aO (tl [6,9]) (fun(z:List (ah×bY)×af)=>[]) (fun z=>z.2) (fun z=>yh H c0 z.1 false z.2/\z.1.map (·.1)=Z) ?_ ?_
 ·intro bD bg;refine Y2 ?_;obtain⟨m,_,ad,F⟩:=NI aI;obtain⟨ae,ai⟩:=NJ ad;refine sE (dm.call rfl rfl (Nx (s:=⟨kz.isEmpty,kz⟩) (ch:=false) (c0:=c0) ae ai b.b7 b.own b.nd)) rfl (fun v aS h' ⟨⟨J,C⟩,K⟩=>?_);subst J K;obtain⟨L',al,am⟩:=b.next b7 C;rw [<- am] at F;refine Y2 ?_
  refine bz (tl [6,9]) (fun(z:Nat×Bool×List (ah×bY)×af)=>[]) (fun z=>z.2.2.2) (fun z=>z.1) (fun z=>NG z.1 z.2.1 (z.2.2.1.map (·.1))=some Z/\yh H c0 z.2.2.1 z.2.1 z.2.2.2) (m,_,L',h') ⟨F,al⟩ wA ?_;rintro ⟨m,ch,L,B⟩ ⟨F,b⟩ bF bh;dsimp only at F b;refine ar fun bG bi=>Y4 ?_;refine s0 (eD (TK rfl) rfl rfl b.b7 rfl) rfl ?_;refine Y1 ?_;refine ag.cond rfl (fun Q=>?_) (fun Q=>?_)
  ·dsimp only at Q;subst Q;refine sk bi (Y3 ?_);obtain⟨m',bn,ad,F⟩:=NI F;obtain⟨ae,ai⟩:=NJ ad;refine sE (dm.call rfl rfl (Nx (s:=⟨L.isEmpty,L⟩) (ch:=true) (c0:=c0) ae ai b.b7 b.own b.nd)) rfl (fun v aS h' ⟨⟨J,C⟩,K⟩=>?_);subst J K;obtain⟨L',al,am⟩:=b.next b7 C;rw [<- am] at F;refine Y1 ?_;exact bh _ (m',_,L',h') wA ⟨F,al⟩ bn
  dsimp only at Q;subst Q;refine ag.exit ?_;exact bg _ (L,B) wA ⟨b,oJ F⟩
 rintro ⟨L,B⟩ ⟨b,aB⟩;dsimp only at b aB;subst aB;have hlen:∀p∈L,p.2.fs.length=p.1.aq.l.length:=fun p C=>(b.own p C).len;have aC:=XM hlen;refine ag.P3 (L.flatMap fun p=>fE p.1 p.2) c0 (fun q hq=>by obtain⟨p,C,hq⟩:=List.mem_flatMap.1 hq; exact(b.own p C).own q hq) (by rw [aC]; exact(List.nodup_cons.1 b.nd).2) b.b7
  (fun j w j' bj=>Th.qf bj hlen fun p C q hq=>List.mem_flatMap.2 ⟨p,C,hq⟩) ?_
 rw [aC];refine ag.uA (cC.forget (h':=H.set c0 (some (.cells (GD ⟨⟨L.isEmpty,L.map (·.1)⟩⟩ false)))) ?_) ?_
 ·intro x o hx;by_cases e:x=c0
  ·subst e;rw [af.aT] at hx ⊢;exact hx
  rw [af.aQ _ _ e] at hx ⊢;have hn:H x≠none:=by rw [hx]; simp
  have hB:=b.e8 x hn;dsimp only at hB ⊢;unfold jA;rw [if_neg (fun hm=>by obtain⟨p,C,bk⟩:=List.mem_flatMap.1 hm; exact hn (b.new p C x bk)),hB,hx]
 have bl:L.isEmpty=(L.map (·.1)).isEmpty:=List.isEmpty_map.symm;rw [bl];generalize L.map (·.1)=Z at g ⊢;refine ar fun bH bm=>Y4 ?_;refine s0 (eD (TK rfl) rfl rfl (af.aT _ _ _) rfl) rfl ?_;obtain⟨bo,bp,g⟩:=bO g;refine s0 (eE rfl rfl (Xi (gT:=gT) (oT:=oT) bp _ (by rw [af.aQ _ _ (fun e=>be e.symm)]; exact ao) aF)) rfl ?_;refine Y4 ?_;refine aU Z5.c bo fun bI=>Y2 ?_
 refine cE g (fun bq g=>?_) (fun bq g=>?_)
 ·refine Y6 ?_;refine ry ?_;obtain rfl:=oJ g;refine bU.cH H rfl ⟨rfl,rfl⟩ ?_;exact af.AZ b7
 refine sk bm (Y4 ?_);refine s0 (eD (TK rfl) rfl rfl (af.aT _ _ _) rfl) rfl ?_;refine Y1 ?_;refine s0 (dM (k':=2) rfl) rfl ?_;refine Y1 ?_;refine ry ?_;obtain rfl:=oJ g;refine bU.cH H rfl ⟨rfl,rfl⟩ ?_;exact af.AZ b7
end Go.Proofs
