import Derived.Test.YtdlobimnfmjonaaGreatDoorV7
set_option maxRecDepth 100000
set_option maxHeartbeats 2000000
set_option linter.unusedVariables false
set_option linter.unusedSimpArgs false
namespace Go.Proofs
open Go Go.Ab
open aJ aq ah dN fT
attribute [local irreducible] aJ aN ah aq
variable {av:bR}
-- @uses supergraph/contract.Tags supergraph/contract.meets (supergraph/contract.filter).first supergraph/validate.Schema supergraph/contract.soft supergraph/schema.Scalar slices.ContainsFunc[[]supergraph/api.Input,supergraph/api.Input] slices.DeleteFunc[[]supergraph/api.Input,supergraph/api.Input] slices.DeleteFunc[[]supergraph/api.Member,supergraph/api.Member] slices.DeleteFunc[[]string,string]
structure cU where
 ak:Int
 aa:Bs
 aH:D
 aM:D
 an:D
 au:D
 ay:D
noncomputable def cU.c (x:cU):List D:=[.int .i64 x.ak,.str x.aa,x.aH,x.aM,x.an,x.au,x.ay]
def cU.zero:cU:=⟨(0:Int),([]:Bs),(.slice 1 none true []),(.slice 2 none true []),(.slice 5 none true []),(.slice 2 none true []),(.slice 10 none true [])⟩
structure iT where
 aj:(Sl cU)
noncomputable def iT.c (x:iT):List D:=[Sl.d 7 cU.c none x.aj]
structure cR where
 Fd:iT
 gH:Bool
noncomputable def cR.c (x:cR):List D:=iT.c x.Fd++vF x.gH
def rm (f:Bs):List cU->Unit ⊕ ((cU×Bool))
 | []=>Sum.inl ()
 | g::j=>on (g) fun b=>bif ((b.aa==f)) then(Sum.inr (b,true)) else(rm f (j) )
def CG (a0:iT) (g:Bs):(cU×Bool):=on (rm g a0.aj.l ) fun b=>match b with|Sum.inl _=>(on (()) fun _=>((cU.zero),false))|Sum.inr f=>(f)
theorem W6 {a0 f r}(b:some (CG a0 f)=some r) (H:af) :AC Tryz.prog 32 [.agg (iT.c a0),.d (.str f)] H (RT (.cI [.agg (cU.c r.1),.d (.bool r.2)]) H):=by
 unfold CG at b;refine AC.oW 22 [.cell 4 40,.tmp 5] Tryz.call32 Tryz.func32 ?_;refine Y5 ?_;refine cT (tl [4]) (fun(z:cU)=>[]) (fun z=>[cU.c z]) (fun z=>H) (fun z=>some (((cU.zero),false))=some r) ?_ ?_
 ·intro C q;refine Y3 ?_;refine aT cU.c a0.aj fun E=>Y3 ?_;obtain⟨g,j,b⟩:=dX b;refine eZ (tl [1,4,9,10]) (fun(z:Nat×cU)=>[(11,vi z.1)]) (fun z=>[cU.c z.2]) (fun z=>H) (fun z=>a0.aj.l.length-z.1) (fun z=>g (rm f (a0.aj.l.drop z.1) )=some r) (0,cU.zero) b wA ?_;rintro ⟨k,m⟩ b F s;refine Y3 ?_;refine ar fun G t=>?_
  refine ah.bL (fun l=>g (rm f l )=some r) b rfl (fun I p u b=>?_) (fun u b=>?_)
  ·rw [rm] at b;refine sk t (ar fun J v=>Y2 ?_);obtain⟨K,w,b⟩:=vP p b;refine S (ix cU.c k w) (Y4 ?_);refine bx 7 _ rfl (kl [1,4,9,10,11]) ?_;refine Y6 ?_;refine cP b (fun y b=>?_) (fun y b=>?_)
   ·refine Y5 ?_;exact rs (ku j b:)
   refine sk v (Y4 ?_);exact s _ ((k+1),m) wA b (dl p)
  rw [rm] at b;have b:=ku j b;refine ah.exit ?_;obtain⟨L,B,b⟩:=dX b;exact q _ m wA (ku B b:)
 rintro M b;refine Y5 ?_;exact rt b
def ga (a0:cR) (b:Bs):Bool:=on (CG a0.Fd b) fun x3=>on (bif (!x3.2) then cW b else false) fun x5=>((!x3.2)&&(!x5))
theorem zU {a0 a1 c0 r}(b:some (ga a0 a1)=some r) (H:af) (bX:H c0=some (.cells (cR.c a0))):AC Tryz.prog 74 [.d (.ptr c0 0),.d (.str a1)] H (RT (.a (.d (.bool r))) H):=by
 unfold ga at b;refine AC.oW 23 [.tmp 4] Tryz.call74 Tryz.func74 ?_;refine Y9 ?_;obtain⟨x3,f,b⟩:=vP rfl b;refine Sc rfl rfl (W6 f) (Y7 ?_);refine bx 5 _ rfl (kl [1,6]) ?_;refine Y5 ?_;obtain⟨x5,g,b⟩:=jU (fun _=>rfl) b;refine dQ 19 rfl rfl rfl rfl rfl (fun hC=>ve (g hC)) ?_;refine Gk 20 ?_;refine Y3 ?_;exact rt b
def xF (a0:Z7) (f:cR):Bool:=on (ga f a0.ax.aa) fun x3=>on (bif x3 then pM a0 else false) fun b=>(x3&&(!b))
theorem W7 {a0 a1 c1 r}(b:some (xF a0 a1)=some r) (H:af) (j:H c1=some (.cells (cR.c a1))):AC Tryz.prog 116 [.agg (Z7.c a0),.d (.view [.ptr c1 0])] H (RT (.a (.d (.bool r))) H):=by
 unfold xF at b;refine AC.oW 14 [.tmp 3] Tryz.call116 Tryz.func116 ?_;refine Y9 ?_;obtain⟨x3,f,b⟩:=vP rfl b;refine s0 (eY rfl rfl (zU f _ aA)) rfl ?_;refine Y2 ?_;obtain⟨k,g,b⟩:=jU (fun _=>rfl) b;refine dQ 10 rfl rfl rfl rfl rfl (fun hC=>MU (g hC)) ?_;refine Gk 11 ?_;refine Y3 ?_;exact rt b
def rp (a0:Z7) (f:cR):Bool:=on (ga f a0.ax.aa) fun x3=>on (bif x3 then pM a0 else false) fun b=>(x3&&b)
theorem W8 {a0 a1 c1 r}(b:some (rp a0 a1)=some r) (H:af) (j:H c1=some (.cells (cR.c a1))):AC Tryz.prog 119 [.agg (Z7.c a0),.d (.view [.ptr c1 0])] H (RT (.a (.d (.bool r))) H):=by
 unfold rp at b;refine AC.oW 13 [.tmp 3] Tryz.call119 Tryz.func119 ?_;refine Y9 ?_;obtain⟨x3,f,b⟩:=vP rfl b;refine s0 (eY rfl rfl (zU f _ aA)) rfl ?_;refine Y2 ?_;obtain⟨k,g,b⟩:=jU (fun _=>rfl) b;refine dQ 10 rfl rfl rfl rfl rfl (fun hC=>MU (g hC)) ?_;refine Y3 ?_;exact rt b
def mS (a0:Z8) (b:cR):Bool:=on (ga b a0.aa) fun x3=>x3
theorem W9 {a0 a1 c1 r}(b:some (mS a0 a1)=some r) (H:af) (g:H c1=some (.cells (cR.c a1))):AC Tryz.prog 76 [.agg (Z8.c a0),.d (.view [.ptr c1 0])] H (RT (.a (.d (.bool r))) H):=by
 unfold mS at b;refine AC.oW 8 [.tmp 3] Tryz.call76 Tryz.func76 ?_;refine Y8 ?_;obtain⟨x3,f,b⟩:=vP rfl b;refine s0 (eY rfl rfl (zU f _ aA)) rfl ?_;refine Y2 ?_;exact rt b
theorem M0 {l:List Z7}{id m:Nat}{nl:Bool}{fd:D}{p:Z7->Bool}{H:af}(hH:H id=some (.arr 10 (l.map Z7.c))) (hm:m=l.length) (j:∀x,gL Tryz.prog fd [.agg (Z7.c x)] H fun v h'=>v=.a (.d (.bool (p x)))/\h'=H):AC Tryz.prog 149 [.d (.arr 10 id nl m),.d fd] H (RT (.a (.d (.int .i64 (l6 p l)))) H):=by
 subst hm;refine AC.oW 19 [.tmp 4] Tryz.call149 Tryz.func149 ?_;refine Y3 ?_;refine aR kN (fun(z:Unit)=>[]) (fun z=>H) (fun z=>∀x∈l,p x=false) ?_ ?_
 ·intro t k;refine Y2 ?_;refine aJ.vJ (f:=Z7.c) (l:=l) (TK rfl) rfl rfl rfl hH rfl rfl fun u=>?_;refine Y3 ?_;refine bD (tl [0,1,7]) (fun(z:Nat)=>[(8,vi z)]) (fun z=>H) (fun z=>l.length-z) (fun z=>∀x∈l.take z,p x=false) 0 (by simp) wA ?_;intro i b w q;refine Y3 ?_;refine ar fun y r=>?_;refine ah.cond rfl (fun hc=>?_) (fun hc=>?_)
  ·have hi:i<l.length:=by have:=oD hc; omega
   have hx:l[i]?=some l[i]:=List.getElem?_eq_getElem hi;generalize l[i]=x at hx;refine sk r (ar fun B s=>Y9 ?_);refine s0 (p9 (f:=Z7.c) (n:=i) (TK rfl) rfl (TK rfl) rfl rfl rfl hH rfl hx) rfl ?_;refine s0 (vI (f:=Z7.c) (l:=l) (i:=i) (o:=0) (TK rfl) rfl rfl hH rfl hx rfl rfl) rfl ?_;refine s0 (lZ rfl rfl (j x)) rfl ?_;refine Y1 ?_;refine ah.cond rfl (fun g=>?_) (fun g=>?_)
   ·have hr:=DG b hx g;refine Y4 ?_;refine ry ?_;rw [<- hr];refine bH.b9 H rfl ⟨rfl,rfl⟩ ?_;exact(fun _ _ h=>h)
   refine sk s (Y4 ?_);exact q _ (i+1) wA (DH b hx g) (by omega)
  refine ah.exit ?_;have C:¬i<l.length:=of_decide_eq_false hc∘Int.ofNat_lt.2;rw [List.take_of_length_le (by omega)] at b;exact k _ () wA b
 rintro _ b;have hr:=DF b;refine Y3 ?_;refine ry ?_;rw [<- hr];refine bH.b9 H rfl ⟨rfl,rfl⟩ ?_;exact(fun _ _ h=>h)
theorem W_ {l:List Z8}{id m:Nat}{nl:Bool}{fd:D}{p:Z8->Bool}{H:af}(hH:H id=some (.arr 2 (l.map Z8.c))) (hm:m=l.length) (j:∀x,gL Tryz.prog fd [.agg (Z8.c x)] H fun v h'=>v=.a (.d (.bool (p x)))/\h'=H):AC Tryz.prog 121 [.d (.arr 2 id nl m),.d fd] H (RT (.a (.d (.int .i64 (l6 p l)))) H):=by
 subst hm;refine AC.oW 19 [.tmp 4] Tryz.call121 Tryz.func121 ?_;refine Y3 ?_;refine aR kN (fun(z:Unit)=>[]) (fun z=>H) (fun z=>∀x∈l,p x=false) ?_ ?_
 ·intro t k;refine Y2 ?_;refine aJ.vJ (f:=Z8.c) (l:=l) (TK rfl) rfl rfl rfl hH rfl rfl fun u=>?_;refine Y3 ?_;refine bD (tl [0,1,7]) (fun(z:Nat)=>[(8,vi z)]) (fun z=>H) (fun z=>l.length-z) (fun z=>∀x∈l.take z,p x=false) 0 (by simp) wA ?_;intro i b w q;refine Y3 ?_;refine ar fun y r=>?_;refine ah.cond rfl (fun hc=>?_) (fun hc=>?_)
  ·have hi:i<l.length:=by have:=oD hc; omega
   have hx:l[i]?=some l[i]:=List.getElem?_eq_getElem hi;generalize l[i]=x at hx;refine sk r (ar fun B s=>Y9 ?_);refine s0 (p9 (f:=Z8.c) (n:=i) (TK rfl) rfl (TK rfl) rfl rfl rfl hH rfl hx) rfl ?_;refine s0 (vI (f:=Z8.c) (l:=l) (i:=i) (o:=0) (TK rfl) rfl rfl hH rfl hx rfl rfl) rfl ?_;refine s0 (lZ rfl rfl (j x)) rfl ?_;refine Y1 ?_;refine ah.cond rfl (fun g=>?_) (fun g=>?_)
   ·have hr:=DG b hx g;refine Y4 ?_;refine ry ?_;rw [<- hr];refine bH.b9 H rfl ⟨rfl,rfl⟩ ?_;exact(fun _ _ h=>h)
   refine sk s (Y4 ?_);exact q _ (i+1) wA (DH b hx g) (by omega)
  refine ah.exit ?_;have C:¬i<l.length:=of_decide_eq_false hc∘Int.ofNat_lt.2;rw [List.take_of_length_le (by omega)] at b;exact k _ () wA b
 rintro _ b;have hr:=DF b;refine Y3 ?_;refine ry ?_;rw [<- hr];refine bH.b9 H rfl ⟨rfl,rfl⟩ ?_;exact(fun _ _ h=>h)
theorem Xa {l:List Bs}{id m:Nat}{nl:Bool}{fd:D}{p:Bs->Bool}{H:af}(hH:H id=some (.arr 1 (l.map aB))) (hm:m=l.length) (j:∀x,gL Tryz.prog fd [.d (.str x)] H fun v h'=>v=.a (.d (.bool (p x)))/\h'=H):AC Tryz.prog 69 [.d (.arr 1 id nl m),.d fd] H (RT (.a (.d (.int .i64 (l6 p l)))) H):=by
 subst hm;refine AC.oW 19 [.tmp 4] Tryz.call69 Tryz.func69 ?_;refine Y3 ?_;refine aR kN (fun(z:Unit)=>[]) (fun z=>H) (fun z=>∀x∈l,p x=false) ?_ ?_
 ·intro t k;refine Y2 ?_;refine aJ.vJ (f:=aB) (l:=l) (TK rfl) rfl rfl rfl hH rfl rfl fun u=>?_;refine Y3 ?_;refine bD (tl [0,1,7]) (fun(z:Nat)=>[(8,vi z)]) (fun z=>H) (fun z=>l.length-z) (fun z=>∀x∈l.take z,p x=false) 0 (by simp) wA ?_;intro i b w q;refine Y3 ?_;refine ar fun y r=>?_;refine ah.cond rfl (fun hc=>?_) (fun hc=>?_)
  ·have hi:i<l.length:=by have:=oD hc; omega
   have hx:l[i]?=some l[i]:=List.getElem?_eq_getElem hi;generalize l[i]=x at hx;refine sk r (ar fun B s=>Y9 ?_);refine s0 (p9 (f:=aB) (n:=i) (TK rfl) rfl (TK rfl) rfl rfl rfl hH rfl hx) rfl ?_;refine s0 (vI (f:=aB) (l:=l) (i:=i) (o:=0) (TK rfl) rfl rfl hH rfl hx rfl rfl) rfl ?_;refine s0 (lZ rfl rfl (j x)) rfl ?_;refine Y1 ?_;refine ah.cond rfl (fun g=>?_) (fun g=>?_)
   ·have hr:=DG b hx g;refine Y4 ?_;refine ry ?_;rw [<- hr];refine bH.b9 H rfl ⟨rfl,rfl⟩ ?_;exact(fun _ _ h=>h)
   refine sk s (Y4 ?_);exact q _ (i+1) wA (DH b hx g) (by omega)
  refine ah.exit ?_;have C:¬i<l.length:=of_decide_eq_false hc∘Int.ofNat_lt.2;rw [List.take_of_length_le (by omega)] at b;exact k _ () wA b
 rintro _ b;have hr:=DF b;refine Y3 ?_;refine ry ?_;rw [<- hr];refine bH.b9 H rfl ⟨rfl,rfl⟩ ?_;exact(fun _ _ h=>h)
theorem Xb {l:List Z7}{id m:Nat}{nl:Bool}{fd:D}{p:Z7->Bool}{H:af}(hH:H id=some (.arr 10 (l.map Z7.c))) (hm:m=l.length) (b:∀x,gL Tryz.prog fd [.agg (Z7.c x)] H fun v h'=>v=.a (.d (.bool (p x)))/\h'=H):AC Tryz.prog 115 [.d (.arr 10 id nl m),.d fd] H (RT (.a (.d (.bool (l.any p)))) H):=by
 rw [<- Pz];refine AC.oW 9 [.tmp 4] Tryz.call115 Tryz.func115 ?_;refine Y6 ?_;refine s0 (eY rfl rfl (M0 hH hm b)) rfl ?_;refine Y3 ?_;refine ry ?_;refine bH.b9 H rfl ⟨rfl,rfl⟩ ?_;exact(fun _ _ h=>h)
theorem Xc {l:List Z7}{id t m:Nat}{nl:Bool}{fd:D}{p:Z7->Bool}{H:af}(hH:H id=some (.arr 10 (l.map Z7.c))) (ht:H t=some (.arr 10 [])) (k:t≠id) (hm:m=l.length) (E:∀x (q:af),(∀n,n≠id->q n=H n)->gL Tryz.prog fd [.agg (Z7.c x)] q fun v h'=>v=.a (.d (.bool (p x)))/\h'=q):AC Tryz.prog 118 [.d (.arr 10 id nl m),.d fd] H fun v h'=>v=.a (.d (bP 10 t nl (l.filter fun x=>!p x).length))/\h'=(H.set id none).set t (some (.arr 10 ((l.filter fun x=>!p x).map Z7.c))):=by
 subst hm;refine AC.oW 42 [.tmp 4] Tryz.call118 Tryz.func118 ?_;refine Y1 ?_;refine s0 (di (k':=10) rfl) rfl ?_;refine Y4 ?_;refine s0 (eY rfl rfl (M0 hH rfl (fun x=>E x _ (fun _ _=>rfl)))) rfl ?_;refine Y2 ?_;rcases DI p l with ⟨r,J⟩|⟨i0,r,b⟩
 ·have K:=AL J;rw [r,K];refine ar fun L F=>Y4 ?_;refine ah.jN rfl rfl ?_;refine ah.vL 0 id t rfl hH ht k (by simp) ?_;refine Y4 ?_;refine ry ?_;refine bH.b9 _ rfl ⟨rfl,rfl⟩ ?_;exact(fun _ _ h=>h)
 rw [r];refine ar fun L F=>Y4 ?_;refine ah.t_ rfl (by simp) ?_;refine sk F (ah.jR (h':=(H.set id (some (.arr 10 (l.map Z7.c))))) (af.kf H id _ hH).symm ?_);refine aR (tl [0]) (fun(z:Nat×List Z7)=>[(5,vi z.1)]) (fun z=>(H.set id (some (.arr 10 (z.2.map Z7.c))))) (fun z=>z.1<=z.2.length/\z.2.take z.1=(l.filter fun x=>!p x)/\l.length=z.2.length) ?_ ?_
 ·intro U M;have W:=b.jl;have X:=b.ij;refine ah.DD (f:=Z7.c) (l:=l) id (af.aS _ _ _) fun Y=>?_;refine Y6 ?_;refine bD (tl [0,1]) (fun(z:Nat×Nat×List Z7)=>[(5,vi z.1),(6,vi z.2.1)]) (fun z=>(H.set id (some (.arr 10 (z.2.2.map Z7.c))))) (fun z=>l.length-z.2.1) (fun z=>iN p l z.2.2 z.1 z.2.1) (i0,i0+1,l) b wA ?_;rintro ⟨i,j,bY⟩ b Z N;dsimp only at b;have g:=b.len
  refine ar fun aa O=>Y3 ?_;refine aJ.vJ (f:=Z7.c) (l:=bY) (TK rfl) rfl rfl rfl (af.aS _ _ _) g.symm rfl fun ab=>?_;refine Y2 ?_;refine ah.cond rfl (fun hc=>?_) (fun hc=>?_)
  ·dsimp only at hc;have P:j<bY.length:=by have:=oD hc; omega
   have hx:bY[j]?=some bY[j]:=List.getElem?_eq_getElem P;generalize bY[j]=x at hx;have hi:i<bY.length:=by have:=b.ij; omega
   refine sk O (aR (tl [0,1,6]) (fun(z:Nat×List Z7)=>[(5,vi z.1)]) (fun z=>(H.set id (some (.arr 10 (z.2.map Z7.c))))) (fun z=>iN p l z.2 z.1 (j+1)) ?_ ?_)
   ·intro ad G;refine Y4 ?_;refine s0 (p9 (f:=Z7.c) (n:=j) (TK rfl) rfl (TK rfl) rfl rfl rfl (af.aS _ _ _) g.symm hx) rfl ?_;refine s0 (vI (f:=Z7.c) (l:=bY) (i:=j) (o:=0) (TK rfl) rfl rfl (af.aS _ _ _) g.symm hx rfl rfl) rfl ?_;refine Y3 ?_;refine bx 7 _ rfl (kl [0,1,5,6]) ?_;refine Y3 ?_;refine s0 (lZ rfl rfl (E x _ (fun n hn=>af.aO _ _ hn))) rfl ?_;refine Y2 ?_
    refine ah.cond rfl (fun s=>?_) (fun s=>?_)
    ·have w:p x=false:=by simpa using s
     have B:bY[i]?=some bY[i]:=List.getElem?_eq_getElem hi;generalize bY[i]=y at B;refine Y4 ?_;refine s0 (p9 (f:=Z7.c) (n:=i) (TK rfl) rfl (TK rfl) rfl rfl rfl (af.aS _ _ _) g.symm B) rfl ?_;refine dG (Dr (f:=Z7.c) (l:=bY) (i:=i) (o:=0) (u:=y) (u':=x) (TK rfl) rfl rfl (af.aS _ _ _) g.symm B rfl rfl (by decide) rfl rfl) rfl rfl ?_
     refine aJ.fP (h':=(H.set id (some (.arr 10 ((bY.set i x).map Z7.c))))) (af.set_set _ _ _ _) ?_;refine Y6 ?_;exact G _ (i+1,bY.set i x) wA (b.keep hx w)
    have w:p x=true:=by simpa using s
    refine ah.skip ?_;exact G _ (i,bY) wA (b.skip hx w)
   rintro ⟨Q,R⟩ I;dsimp only at I;refine Y5 ?_;exact N _ (Q,j+1,R) wA I (by show l.length-(j+1)<l.length-j; omega)
  refine ah.exit ?_;dsimp only at hc;obtain⟨h1,S⟩:=b.fin (by have:=of_decide_eq_false hc; omega);exact M _ (i,bY) wA ⟨h1,S,g.symm⟩
 rintro ⟨i,bY⟩ ⟨hi,C,g⟩;dsimp only at hi C g;refine Y3 ?_;refine aJ.DE (f:=Z7.c) (l:=bY) (i:=i) (oF:=Z7.zero) (TK rfl) rfl (TK rfl) rfl rfl rfl rfl rfl rfl (af.aS _ _ _) g hi rfl ?_;refine aJ.fP (h':=(H.set id (some (.arr 10 ((bY.take i++List.replicate (bY.length-i) Z7.zero).map Z7.c))))) (af.set_set _ _ _ _) ?_;refine Y4 ?_
 refine sH (DC (i:=i) (tid:=t) (TK rfl) rfl (TK rfl) rfl rfl (af.aS _ _ _) (by rw [af.aO _ _ k]; exact ht) k (by simp; omega) (by simp; omega)) rfl ?_;refine Y2 ?_;refine ry ?_;refine bH.b9 _ rfl ⟨?_, ?_⟩ (fun _ _ h=>h)
 ·rw [<- C,List.length_take,Nat.min_eq_left hi];rfl
 rw [<- C,af.set_set,<- List.map_take,List.take_left' (by rw [List.length_take,Nat.min_eq_left hi])]
theorem Xd {l:List Z8}{id t m:Nat}{nl:Bool}{fd:D}{p:Z8->Bool}{H:af}(hH:H id=some (.arr 2 (l.map Z8.c))) (ht:H t=some (.arr 2 [])) (k:t≠id) (hm:m=l.length) (E:∀x (q:af),(∀n,n≠id->q n=H n)->gL Tryz.prog fd [.agg (Z8.c x)] q fun v h'=>v=.a (.d (.bool (p x)))/\h'=q):AC Tryz.prog 75 [.d (.arr 2 id nl m),.d fd] H fun v h'=>v=.a (.d (bP 2 t nl (l.filter fun x=>!p x).length))/\h'=(H.set id none).set t (some (.arr 2 ((l.filter fun x=>!p x).map Z8.c))):=by
 subst hm;refine AC.oW 42 [.tmp 4] Tryz.call75 Tryz.func75 ?_;refine Y1 ?_;refine s0 (di (k':=2) rfl) rfl ?_;refine Y4 ?_;refine s0 (eY rfl rfl (W_ hH rfl (fun x=>E x _ (fun _ _=>rfl)))) rfl ?_;refine Y2 ?_;rcases DI p l with ⟨r,J⟩|⟨i0,r,b⟩
 ·have K:=AL J;rw [r,K];refine ar fun L F=>Y4 ?_;refine ah.jN rfl rfl ?_;refine ah.vL 0 id t rfl hH ht k (by simp) ?_;refine Y4 ?_;refine ry ?_;refine bH.b9 _ rfl ⟨rfl,rfl⟩ ?_;exact(fun _ _ h=>h)
 rw [r];refine ar fun L F=>Y4 ?_;refine ah.t_ rfl (by simp) ?_;refine sk F (ah.jR (h':=(H.set id (some (.arr 2 (l.map Z8.c))))) (af.kf H id _ hH).symm ?_);refine aR (tl [0]) (fun(z:Nat×List Z8)=>[(5,vi z.1)]) (fun z=>(H.set id (some (.arr 2 (z.2.map Z8.c))))) (fun z=>z.1<=z.2.length/\z.2.take z.1=(l.filter fun x=>!p x)/\l.length=z.2.length) ?_ ?_
 ·intro U M;have W:=b.jl;have X:=b.ij;refine ah.DD (f:=Z8.c) (l:=l) id (af.aS _ _ _) fun Y=>?_;refine Y6 ?_;refine bD (tl [0,1]) (fun(z:Nat×Nat×List Z8)=>[(5,vi z.1),(6,vi z.2.1)]) (fun z=>(H.set id (some (.arr 2 (z.2.2.map Z8.c))))) (fun z=>l.length-z.2.1) (fun z=>iN p l z.2.2 z.1 z.2.1) (i0,i0+1,l) b wA ?_;rintro ⟨i,j,bY⟩ b Z N;dsimp only at b;have g:=b.len
  refine ar fun aa O=>Y3 ?_;refine aJ.vJ (f:=Z8.c) (l:=bY) (TK rfl) rfl rfl rfl (af.aS _ _ _) g.symm rfl fun ab=>?_;refine Y2 ?_;refine ah.cond rfl (fun hc=>?_) (fun hc=>?_)
  ·dsimp only at hc;have P:j<bY.length:=by have:=oD hc; omega
   have hx:bY[j]?=some bY[j]:=List.getElem?_eq_getElem P;generalize bY[j]=x at hx;have hi:i<bY.length:=by have:=b.ij; omega
   refine sk O (aR (tl [0,1,6]) (fun(z:Nat×List Z8)=>[(5,vi z.1)]) (fun z=>(H.set id (some (.arr 2 (z.2.map Z8.c))))) (fun z=>iN p l z.2 z.1 (j+1)) ?_ ?_)
   ·intro ad G;refine Y4 ?_;refine s0 (p9 (f:=Z8.c) (n:=j) (TK rfl) rfl (TK rfl) rfl rfl rfl (af.aS _ _ _) g.symm hx) rfl ?_;refine s0 (vI (f:=Z8.c) (l:=bY) (i:=j) (o:=0) (TK rfl) rfl rfl (af.aS _ _ _) g.symm hx rfl rfl) rfl ?_;refine Y3 ?_;refine bx 7 _ rfl (kl [0,1,5,6]) ?_;refine Y3 ?_;refine s0 (lZ rfl rfl (E x _ (fun n hn=>af.aO _ _ hn))) rfl ?_;refine Y2 ?_
    refine ah.cond rfl (fun s=>?_) (fun s=>?_)
    ·have w:p x=false:=by simpa using s
     have B:bY[i]?=some bY[i]:=List.getElem?_eq_getElem hi;generalize bY[i]=y at B;refine Y4 ?_;refine s0 (p9 (f:=Z8.c) (n:=i) (TK rfl) rfl (TK rfl) rfl rfl rfl (af.aS _ _ _) g.symm B) rfl ?_;refine dG (Dr (f:=Z8.c) (l:=bY) (i:=i) (o:=0) (u:=y) (u':=x) (TK rfl) rfl rfl (af.aS _ _ _) g.symm B rfl rfl (by decide) rfl rfl) rfl rfl ?_
     refine aJ.fP (h':=(H.set id (some (.arr 2 ((bY.set i x).map Z8.c))))) (af.set_set _ _ _ _) ?_;refine Y6 ?_;exact G _ (i+1,bY.set i x) wA (b.keep hx w)
    have w:p x=true:=by simpa using s
    refine ah.skip ?_;exact G _ (i,bY) wA (b.skip hx w)
   rintro ⟨Q,R⟩ I;dsimp only at I;refine Y5 ?_;exact N _ (Q,j+1,R) wA I (by show l.length-(j+1)<l.length-j; omega)
  refine ah.exit ?_;dsimp only at hc;obtain⟨h1,S⟩:=b.fin (by have:=of_decide_eq_false hc; omega);exact M _ (i,bY) wA ⟨h1,S,g.symm⟩
 rintro ⟨i,bY⟩ ⟨hi,C,g⟩;dsimp only at hi C g;refine Y3 ?_;refine aJ.DE (f:=Z8.c) (l:=bY) (i:=i) (oF:=Z8.zero) (TK rfl) rfl (TK rfl) rfl rfl rfl rfl rfl rfl (af.aS _ _ _) g hi rfl ?_;refine aJ.fP (h':=(H.set id (some (.arr 2 ((bY.take i++List.replicate (bY.length-i) Z8.zero).map Z8.c))))) (af.set_set _ _ _ _) ?_;refine Y4 ?_
 refine sH (DC (i:=i) (tid:=t) (TK rfl) rfl (TK rfl) rfl rfl (af.aS _ _ _) (by rw [af.aO _ _ k]; exact ht) k (by simp; omega) (by simp; omega)) rfl ?_;refine Y2 ?_;refine ry ?_;refine bH.b9 _ rfl ⟨?_, ?_⟩ (fun _ _ h=>h)
 ·rw [<- C,List.length_take,Nat.min_eq_left hi];rfl
 rw [<- C,af.set_set,<- List.map_take,List.take_left' (by rw [List.length_take,Nat.min_eq_left hi])]
theorem Xe {l:List Bs}{id t m:Nat}{nl:Bool}{fd:D}{p:Bs->Bool}{H:af}(hH:H id=some (.arr 1 (l.map aB))) (ht:H t=some (.arr 1 [])) (k:t≠id) (hm:m=l.length) (E:∀x (q:af),(∀n,n≠id->q n=H n)->gL Tryz.prog fd [.d (.str x)] q fun v h'=>v=.a (.d (.bool (p x)))/\h'=q):AC Tryz.prog 77 [.d (.arr 1 id nl m),.d fd] H fun v h'=>v=.a (.d (bP 1 t nl (l.filter fun x=>!p x).length))/\h'=(H.set id none).set t (some (.arr 1 ((l.filter fun x=>!p x).map aB))):=by
 subst hm;refine AC.oW 42 [.tmp 4] Tryz.call77 Tryz.func77 ?_;refine Y1 ?_;refine s0 (di (k':=1) rfl) rfl ?_;refine Y4 ?_;refine s0 (eY rfl rfl (Xa hH rfl (fun x=>E x _ (fun _ _=>rfl)))) rfl ?_;refine Y2 ?_;rcases DI p l with ⟨r,J⟩|⟨i0,r,b⟩
 ·have K:=AL J;rw [r,K];refine ar fun L F=>Y4 ?_;refine ah.jN rfl rfl ?_;refine ah.vL 0 id t rfl hH ht k (by simp) ?_;refine Y4 ?_;refine ry ?_;refine bH.b9 _ rfl ⟨rfl,rfl⟩ ?_;exact(fun _ _ h=>h)
 rw [r];refine ar fun L F=>Y4 ?_;refine ah.t_ rfl (by simp) ?_;refine sk F (ah.jR (h':=(H.set id (some (.arr 1 (l.map aB))))) (af.kf H id _ hH).symm ?_);refine aR (tl [0]) (fun(z:Nat×List Bs)=>[(5,vi z.1)]) (fun z=>(H.set id (some (.arr 1 (z.2.map aB))))) (fun z=>z.1<=z.2.length/\z.2.take z.1=(l.filter fun x=>!p x)/\l.length=z.2.length) ?_ ?_
 ·intro U M;have W:=b.jl;have X:=b.ij;refine ah.DD (f:=aB) (l:=l) id (af.aS _ _ _) fun Y=>?_;refine Y6 ?_;refine bD (tl [0,1]) (fun(z:Nat×Nat×List Bs)=>[(5,vi z.1),(6,vi z.2.1)]) (fun z=>(H.set id (some (.arr 1 (z.2.2.map aB))))) (fun z=>l.length-z.2.1) (fun z=>iN p l z.2.2 z.1 z.2.1) (i0,i0+1,l) b wA ?_;rintro ⟨i,j,bY⟩ b Z N;dsimp only at b;have g:=b.len
  refine ar fun aa O=>Y3 ?_;refine aJ.vJ (f:=aB) (l:=bY) (TK rfl) rfl rfl rfl (af.aS _ _ _) g.symm rfl fun ab=>?_;refine Y2 ?_;refine ah.cond rfl (fun hc=>?_) (fun hc=>?_)
  ·dsimp only at hc;have P:j<bY.length:=by have:=oD hc; omega
   have hx:bY[j]?=some bY[j]:=List.getElem?_eq_getElem P;generalize bY[j]=x at hx;have hi:i<bY.length:=by have:=b.ij; omega
   refine sk O (aR (tl [0,1,6]) (fun(z:Nat×List Bs)=>[(5,vi z.1)]) (fun z=>(H.set id (some (.arr 1 (z.2.map aB))))) (fun z=>iN p l z.2 z.1 (j+1)) ?_ ?_)
   ·intro ad G;refine Y4 ?_;refine s0 (p9 (f:=aB) (n:=j) (TK rfl) rfl (TK rfl) rfl rfl rfl (af.aS _ _ _) g.symm hx) rfl ?_;refine s0 (vI (f:=aB) (l:=bY) (i:=j) (o:=0) (TK rfl) rfl rfl (af.aS _ _ _) g.symm hx rfl rfl) rfl ?_;refine Y5 ?_;refine s0 (lZ rfl rfl (E x _ (fun n hn=>af.aO _ _ hn))) rfl ?_;refine Y2 ?_;refine ah.cond rfl (fun s=>?_) (fun s=>?_)
    ·have w:p x=false:=by simpa using s
     have B:bY[i]?=some bY[i]:=List.getElem?_eq_getElem hi;generalize bY[i]=y at B;refine Y4 ?_;refine s0 (p9 (f:=aB) (n:=i) (TK rfl) rfl (TK rfl) rfl rfl rfl (af.aS _ _ _) g.symm B) rfl ?_;refine dG (Dr (f:=aB) (l:=bY) (i:=i) (o:=0) (u:=y) (u':=x) (TK rfl) rfl rfl (af.aS _ _ _) g.symm B rfl rfl (by decide) rfl rfl) rfl rfl ?_
     refine aJ.fP (h':=(H.set id (some (.arr 1 ((bY.set i x).map aB))))) (af.set_set _ _ _ _) ?_;refine Y6 ?_;exact G _ (i+1,bY.set i x) wA (b.keep hx w)
    have w:p x=true:=by simpa using s
    refine ah.skip ?_;exact G _ (i,bY) wA (b.skip hx w)
   rintro ⟨Q,R⟩ I;dsimp only at I;refine Y5 ?_;exact N _ (Q,j+1,R) wA I (by show l.length-(j+1)<l.length-j; omega)
  refine ah.exit ?_;dsimp only at hc;obtain⟨h1,S⟩:=b.fin (by have:=of_decide_eq_false hc; omega);exact M _ (i,bY) wA ⟨h1,S,g.symm⟩
 rintro ⟨i,bY⟩ ⟨hi,C,g⟩;dsimp only at hi C g;refine Y3 ?_;refine aJ.DE (f:=aB) (l:=bY) (i:=i) (oF:=([]:Bs)) (TK rfl) rfl (TK rfl) rfl rfl rfl rfl rfl rfl (af.aS _ _ _) g hi rfl ?_;refine aJ.fP (h':=(H.set id (some (.arr 1 ((bY.take i++List.replicate (bY.length-i) ([]:Bs)).map aB))))) (af.set_set _ _ _ _) ?_;refine Y4 ?_
 refine sH (DC (i:=i) (tid:=t) (TK rfl) rfl (TK rfl) rfl rfl (af.aS _ _ _) (by rw [af.aO _ _ k]; exact ht) k (by simp; omega) (by simp; omega)) rfl ?_;refine Y2 ?_;refine ry ?_;refine bH.b9 _ rfl ⟨?_, ?_⟩ (fun _ _ h=>h)
 ·rw [<- C,List.length_take,Nat.min_eq_left hi];rfl
 rw [<- C,af.set_set,<- List.map_take,List.take_left' (by rw [List.length_take,Nat.min_eq_left hi])]
theorem Xf {s:Sl Z7}{id t:Nat}{fd:D}{p:Z7->Bool}{H:af}(hH:H id=some (.arr 10 (s.l.map Z7.c))) (ht:H t=some (.arr 10 [])) (g:t≠id) (f:∀x (b:af),(∀n,n≠id->b n=H n)->gL Tryz.prog fd [.agg (Z7.c x)] b fun v h'=>v=.a (.d (.bool (p x)))/\h'=b):AC Tryz.prog 118 [.d (bP 10 id s.nl s.l.length),.d fd] H fun v h'=>v=.a (.d (bP 10 t s.nl (s.l.filter fun x=>!p x).length))/\h'=(H.set id none).set t (some (.arr 10 ((s.l.filter fun x=>!p x).map Z7.c))):=by
 rcases s with ⟨nl,l⟩;cases l with
 | nil =>
  refine AC.forget (W3 (a0:=⟨nl,[]⟩) (w0:=none) (a1:=fun x=>some (p x)) (r:=⟨nl,[]⟩) rfl H fun x r hx=>?_) fun n o hn=>?_
  ·obtain rfl:=oJ hx;exact f x H fun _ _=>rfl
  by_cases c:n=t
  ·subst c; rw [af.aS] at hn; rw [ht,<- hn]; rfl
  rw [af.aO _ _ c] at hn;by_cases c:n=id
  ·subst c; rw [af.aS] at hn; cases hn
  rwa [af.aO _ _ c] at hn
 | cons a r=>exact Xc hH ht g rfl f
theorem Xg {s:Sl Z7}{id:Nat}{fd:D}{p:Z7->Bool}{H:af}(hH:H id=some (.arr 10 (s.l.map Z7.c))) (b:∀x,gL Tryz.prog fd [.agg (Z7.c x)] H fun v h'=>v=.a (.d (.bool (p x)))/\h'=H):AC Tryz.prog 115 [.d (bP 10 id s.nl s.l.length),.d fd] H fun v h'=>v=.a (.d (.bool (s.l.any p)))/\h'=H:=by
 rcases s with ⟨nl,l⟩;cases l with
 | nil=>exact W2 (a0:=⟨nl,[]⟩) (w0:=none) (a1:=fun x=>some (p x)) (r:=false) rfl H fun x r hx=>by obtain rfl:=oJ hx; exact b x
 | cons a r=>exact Xb hH rfl b
theorem Xh {s:Sl Z8}{id t:Nat}{fd:D}{p:Z8->Bool}{H:af}(hH:H id=some (.arr 2 (s.l.map Z8.c))) (ht:H t=some (.arr 2 [])) (g:t≠id) (f:∀x (b:af),(∀n,n≠id->b n=H n)->gL Tryz.prog fd [.agg (Z8.c x)] b fun v h'=>v=.a (.d (.bool (p x)))/\h'=b):AC Tryz.prog 75 [.d (bP 2 id s.nl s.l.length),.d fd] H fun v h'=>v=.a (.d (bP 2 t s.nl (s.l.filter fun x=>!p x).length))/\h'=(H.set id none).set t (some (.arr 2 ((s.l.filter fun x=>!p x).map Z8.c))):=by
 rcases s with ⟨nl,l⟩;cases l with
 | nil =>
  refine AC.forget (W4 (a0:=⟨nl,[]⟩) (w0:=none) (a1:=fun x=>some (p x)) (r:=⟨nl,[]⟩) rfl H fun x r hx=>?_) fun n o hn=>?_
  ·obtain rfl:=oJ hx;exact f x H fun _ _=>rfl
  by_cases c:n=t
  ·subst c; rw [af.aS] at hn; rw [ht,<- hn]; rfl
  rw [af.aO _ _ c] at hn;by_cases c:n=id
  ·subst c; rw [af.aS] at hn; cases hn
  rwa [af.aO _ _ c] at hn
 | cons a r=>exact Xd hH ht g rfl f
theorem Xi {s:Sl Bs}{id t:Nat}{fd:D}{p:Bs->Bool}{H:af}(hH:H id=some (.arr 1 (s.l.map aB))) (ht:H t=some (.arr 1 [])) (g:t≠id) (f:∀x (b:af),(∀n,n≠id->b n=H n)->gL Tryz.prog fd [.d (.str x)] b fun v h'=>v=.a (.d (.bool (p x)))/\h'=b):AC Tryz.prog 77 [.d (bP 1 id s.nl s.l.length),.d fd] H fun v h'=>v=.a (.d (bP 1 t s.nl (s.l.filter fun x=>!p x).length))/\h'=(H.set id none).set t (some (.arr 1 ((s.l.filter fun x=>!p x).map aB))):=by
 rcases s with ⟨nl,l⟩;cases l with
 | nil =>
  refine AC.forget (W5 (a0:=⟨nl,[]⟩) (w0:=none) (a1:=fun x=>some (p x)) (r:=⟨nl,[]⟩) rfl H fun x r hx=>?_) fun n o hn=>?_
  ·obtain rfl:=oJ hx;exact f x H fun _ _=>rfl
  by_cases c:n=t
  ·subst c; rw [af.aS] at hn; rw [ht,<- hn]; rfl
  rw [af.aO _ _ c] at hn;by_cases c:n=id
  ·subst c; rw [af.aS] at hn; cases hn
  rwa [af.aO _ _ c] at hn
 | cons a r=>exact Xe hH ht g rfl f
theorem M1 {a0:Sl Z7}{w0:Option Nat}{g:Nat}{r:Sl Z7}(b:Cx a0=some r) (H:af) (O:H g=some (.arr 10 [])) :AC Tryz.prog 39 [.d (Sl.d 10 Z7.c w0 a0)] H fun v h'=>v=.a (.d (.arr 10 g r.nl r.l.length))/\h'=H.set g (some (.arr 10 (r.l.map Z7.c))):=by
 unfold Cx u4 at b;refine AC.oW 32 [.tmp 2] Tryz.call39 Tryz.func39 ?_;refine hz (H.set g (some (.arr 10 []))) (Y1 ?_);refine s0 (di (k':=10) rfl) rfl ?_;refine aJ.AJ 2 10 g rfl aA ?_;refine Y2 ?_;refine s0 (di (k':=10) rfl) rfl ?_;refine aJ.AJ 3 10 g rfl aA ?_;refine Y1 ?_
 refine aR kN (fun(z:(Sl Z7))=>[(3,.a (.d (.arr 10 g z.nl z.l.length)))]) (fun z=>(H.set g (some (.arr 10 (z.l.map Z7.c))))) (fun z=>(some z)=some r) ?_ ?_
 ·intro P t;refine Y2 ?_;refine aT Z7.c a0 fun Q=>Y3 ?_;obtain⟨m,u,b⟩:=bZ b;refine bD (tl [6,7]) (fun(z:Nat×(Sl Z7))=>[(8,vi z.1),(3,.a (.d (.arr 10 g z.2.nl z.2.l.length)))]) (fun z=>(H.set g (some (.arr 10 (z.2.l.map Z7.c))))) (fun z=>a0.l.length-z.1) (fun z=>Option.bind (lN  (a0.l.drop z.1) z.2) m=some r) (0,(Sl.nil:Sl Z7)) b wA ?_;rintro ⟨p,k⟩ b R w;refine Y1 ?_;(first
   | refine s0 (xW rfl rfl rfl) rfl ?_
   | refine s0 (C6 rfl rfl rfl) rfl ?_)
  refine Y1 ?_;refine ar fun U y=>?_;refine ah.bL (fun l=>Option.bind (lN  l k) m=some r) b rfl (fun W q B b=>?_) (fun B b=>?_)
  ·rw [lN] at b;refine sk y (ar fun X C=>Y2 ?_);obtain⟨j,E,b⟩:=vO q b;refine S (ix Z7.c p E) ?_;(first
    | refine s0 (jP (TK rfl) rfl rfl rfl rfl) rfl ?_
    | refine s0 (dU (TK rfl) rfl rfl rfl) rfl ?_
    | refine s0 (eM (TK rfl) rfl rfl (by(first|assumption|exact af.aS _ _ _|((repeat (refine(af.aO _ _ (by first|assumption|(apply Ne.symm; assumption))).trans ?_)); first|assumption|exact af.aS _ _ _)|(simp only [af.set_set,af.aS]; done)|(simp [af.set, *]; done))) rfl) rfl ?_)
   refine Y1 ?_;(first
    | refine gD (yh (TK rfl) rfl rfl rfl rfl rfl) ?_
    | refine gD (jC (TK rfl) rfl rfl rfl rfl (by repeat (first|exact bn.zero|apply bn.succ)) (by repeat (first|exact bn.zero|apply bn.succ))) ?_
    | refine dG (gv (TK rfl) rfl rfl (by(first|assumption|exact af.aS _ _ _|((repeat (refine(af.aO _ _ (by first|assumption|(apply Ne.symm; assumption))).trans ?_)); first|assumption|exact af.aS _ _ _)|(simp only [af.set_set,af.aS]; done)|(simp [af.set, *]; done))) rfl (by repeat (first|exact bn.zero|apply bn.succ))) rfl rfl ?_)
   refine Y2 ?_;(first
    | refine s0 (nj (TK rfl) rfl rfl (TK rfl) rfl rfl) rfl ?_
    | refine s0 (p8 (TK rfl) rfl rfl (TK rfl) rfl rfl) rfl ?_
    | refine s0 (iD (TK rfl) rfl rfl (TK rfl) rfl rfl) rfl ?_)
   (first
    | refine s0 (nj (TK rfl) rfl rfl (TK rfl) rfl rfl) rfl ?_
    | refine s0 (p8 (TK rfl) rfl rfl (TK rfl) rfl rfl) rfl ?_
    | refine s0 (iD (TK rfl) rfl rfl (TK rfl) rfl rfl) rfl ?_)
   (first
    | refine s0 (jP (TK rfl) rfl rfl rfl rfl) rfl ?_
    | refine s0 (dU (TK rfl) rfl rfl rfl) rfl ?_
    | refine s0 (eM (TK rfl) rfl rfl (by(first|assumption|exact af.aS _ _ _|((repeat (refine(af.aO _ _ (by first|assumption|(apply Ne.symm; assumption))).trans ?_)); first|assumption|exact af.aS _ _ _)|(simp only [af.set_set,af.aS]; done)|(simp [af.set, *]; done))) rfl) rfl ?_)
   obtain⟨F,G,b⟩:=qO rfl b;refine Sc rfl rfl (zN G) ?_;(first
    | refine s0 (nj (TK rfl) rfl rfl (TK rfl) rfl rfl) rfl ?_
    | refine s0 (p8 (TK rfl) rfl rfl (TK rfl) rfl rfl) rfl ?_
    | refine s0 (iD (TK rfl) rfl rfl (TK rfl) rfl rfl) rfl ?_)
   (first
    | refine s0 (nj (TK rfl) rfl rfl (TK rfl) rfl rfl) rfl ?_
    | refine s0 (p8 (TK rfl) rfl rfl (TK rfl) rfl rfl) rfl ?_
    | refine s0 (iD (TK rfl) rfl rfl (TK rfl) rfl rfl) rfl ?_)
   (first
    | refine gD (yh (TK rfl) rfl rfl rfl rfl rfl) ?_
    | refine gD (jC (TK rfl) rfl rfl rfl rfl (by repeat (first|exact bn.zero|apply bn.succ)) (by repeat (first|exact bn.zero|apply bn.succ))) ?_
    | refine dG (gv (TK rfl) rfl rfl (by(first|assumption|exact af.aS _ _ _|((repeat (refine(af.aO _ _ (by first|assumption|(apply Ne.symm; assumption))).trans ?_)); first|assumption|exact af.aS _ _ _)|(simp only [af.set_set,af.aS]; done)|(simp [af.set, *]; done))) rfl (by repeat (first|exact bn.zero|apply bn.succ))) rfl rfl ?_)
   refine Y2 ?_;(first
    | refine s0 (nj (TK rfl) rfl rfl (TK rfl) rfl rfl) rfl ?_
    | refine s0 (p8 (TK rfl) rfl rfl (TK rfl) rfl rfl) rfl ?_
    | refine s0 (iD (TK rfl) rfl rfl (TK rfl) rfl rfl) rfl ?_)
   (first
    | refine s0 (jP (TK rfl) rfl rfl rfl rfl) rfl ?_
    | refine s0 (dU (TK rfl) rfl rfl rfl) rfl ?_
    | refine s0 (eM (TK rfl) rfl rfl (by(first|assumption|exact af.aS _ _ _|((repeat (refine(af.aO _ _ (by first|assumption|(apply Ne.symm; assumption))).trans ?_)); first|assumption|exact af.aS _ _ _)|(simp only [af.set_set,af.aS]; done)|(simp [af.set, *]; done))) rfl) rfl ?_)
   obtain⟨I,J,b⟩:=qO rfl b;refine Sc rfl rfl (zM J) ?_;(first
    | refine s0 (nj (TK rfl) rfl rfl (TK rfl) rfl rfl) rfl ?_
    | refine s0 (p8 (TK rfl) rfl rfl (TK rfl) rfl rfl) rfl ?_
    | refine s0 (iD (TK rfl) rfl rfl (TK rfl) rfl rfl) rfl ?_)
   refine gD (GS (xs':=Z7.c (Z7.mk j.aa (aL.mk j.ax.aa F) j.b_ I j.aM)) (TK rfl) rfl rfl rfl rfl (Nat.le_of_ble_eq_true rfl) rfl (by repeat (first|exact bn.zero|apply bn.succ))) ?_;refine Y2 ?_;(first
    | refine s0 (nj (TK rfl) rfl rfl (TK rfl) rfl rfl) rfl ?_
    | refine s0 (p8 (TK rfl) rfl rfl (TK rfl) rfl rfl) rfl ?_
    | refine s0 (iD (TK rfl) rfl rfl (TK rfl) rfl rfl) rfl ?_)
   (first
    | refine s0 (jP (TK rfl) rfl rfl rfl rfl) rfl ?_
    | refine s0 (dU (TK rfl) rfl rfl rfl) rfl ?_
    | refine s0 (eM (TK rfl) rfl rfl (by(first|assumption|exact af.aS _ _ _|((repeat (refine(af.aO _ _ (by first|assumption|(apply Ne.symm; assumption))).trans ?_)); first|assumption|exact af.aS _ _ _)|(simp only [af.set_set,af.aS]; done)|(simp [af.set, *]; done))) rfl) rfl ?_)
   obtain⟨Y,K,b⟩:=qO rfl b;refine Sc rfl rfl (tP K) ?_;(first
    | refine s0 (nj (TK rfl) rfl rfl (TK rfl) rfl rfl) rfl ?_
    | refine s0 (p8 (TK rfl) rfl rfl (TK rfl) rfl rfl) rfl ?_
    | refine s0 (iD (TK rfl) rfl rfl (TK rfl) rfl rfl) rfl ?_)
   (first
    | refine gD (yh (TK rfl) rfl rfl rfl rfl rfl) ?_
    | refine gD (jC (TK rfl) rfl rfl rfl rfl (by repeat (first|exact bn.zero|apply bn.succ)) (by repeat (first|exact bn.zero|apply bn.succ))) ?_
    | refine dG (gv (TK rfl) rfl rfl (by(first|assumption|exact af.aS _ _ _|((repeat (refine(af.aO _ _ (by first|assumption|(apply Ne.symm; assumption))).trans ?_)); first|assumption|exact af.aS _ _ _)|(simp only [af.set_set,af.aS]; done)|(simp [af.set, *]; done))) rfl (by repeat (first|exact bn.zero|apply bn.succ))) rfl rfl ?_)
   refine Y3 ?_;(first
    | refine s0 (jP (TK rfl) rfl rfl rfl rfl) rfl ?_
    | refine s0 (dU (TK rfl) rfl rfl rfl) rfl ?_
    | refine s0 (eM (TK rfl) rfl rfl (by(first|assumption|exact af.aS _ _ _|((repeat (refine(af.aO _ _ (by first|assumption|(apply Ne.symm; assumption))).trans ?_)); first|assumption|exact af.aS _ _ _)|(simp only [af.set_set,af.aS]; done)|(simp [af.set, *]; done))) rfl) rfl ?_)
   refine Y1 ?_;obtain⟨L,M,b⟩:=qO rfl b;refine sH (Ds (f:=Z7.c) (s:=k) (TK rfl) rfl (TK rfl) (TK rfl) ⟨_,rfl⟩ rfl rfl rfl rfl rfl rfl aA (by first|rfl|simp [Sl.Hq,Sl.nil,HC]) rfl M) rfl ?_;refine Y2 ?_;refine C _ ?_;refine Y4 ?_;exact w _ ((p+1),L) wA b (dl q)
  rw [lN] at b;have b:=ku u b;refine ah.exit ?_;obtain⟨Z,N,b⟩:=bW b;exact t _ k wA (ku N b:)
 rintro ab b;refine Y4 ?_;exact rt b
def kX (c:cR) (s:Sl Z7):Sl Z7×Bool×cR :=
 (⟨s.nl,s.l.filter fun x=>!rp x c⟩,s.l.any fun x=>xF x c,⟨c.Fd,c.gH||(decide ((((s.l.filter fun x=>!rp x c).length:Nat):Int)<((s.l.length:Nat):Int)))⟩)
theorem M2 {c:cR}{s:Sl Z7}{c0 id t:Nat}{H:af}(hc:H c0=some (.cells (cR.c c))) (hi:H id=some (.arr 10 (s.l.map Z7.c))) (ht:H t=some (.arr 10 [])) (h1:c0≠id) (f:c0≠t) (g:t≠id) :
  AC Tryz.prog 73 [.d (.ptr c0 0),.d (bP 10 id s.nl s.l.length)] H fun v h'=>v=.cI [.d (bP 10 t (kX c s).1.nl (kX c s).1.l.length),.d (.bool (kX c s).2.1)] /\
   h'=(((H.set id none).set t (some (.arr 10 ((kX c s).1.l.map Z7.c)))).set c0 (some (.cells (cR.c (kX c s).2.2)))):=by
 refine AC.oW 31 [.tmp 4,.tmp 5] Tryz.call73 Tryz.func73 ?_;refine Y2 ?_;refine s0 (di (k':=10) rfl) rfl ?_;refine Y4 ?_;refine s0 (makeFunc rfl) rfl ?_;refine s0 (eY rfl rfl (Xg (p:=fun x=>xF x c) hi (fun x=>W7 (a0:=x) (a1:=c) rfl H hc))) rfl ?_;refine Y4 ?_;refine s0 (rS (TK rfl) rfl rfl rfl) rfl ?_;refine Y4 ?_;refine s0 (makeFunc rfl) rfl ?_
 refine sH (bS rfl rfl (Xf (p:=fun x=>rp x c) hi ht g (fun x j q=>W8 (a0:=x) (a1:=c) rfl j (by rw [q c0 h1]; exact hc)))) rfl ?_;refine Y2 ?_;have b:((H.set id none).set t (some (.arr 10 ((s.l.filter fun x=>!rp x c).map Z7.c)))) c0=some (.cells (cR.c c)):=by rw [af.aO _ _ f,af.aO _ _ h1]; exact hc
 refine Y5 ?_;refine aN.s0 (eM (TK rfl) rfl rfl b rfl) rfl ?_;refine Y2 ?_;refine qe 22 rfl (fun hC=>rS (k:=10) (id:=t) (nl:=s.nl) (m:=(s.l.filter fun x=>!rp x c).length) (TK rfl) rfl rfl rfl) ?_;refine Y1 ?_;refine AU 23 24 rfl rfl BI ?_;refine Y3 ?_;refine aN.dG (gv (TK rfl) rfl rfl b rfl (by repeat (first|exact bn.zero|apply bn.succ))) rfl rfl ?_;refine Y7 ?_;refine ry ?_
 refine bH.b9 _ rfl ⟨rfl,rfl⟩ ?_;exact(fun _ _ h=>h)
/-! ### The parts of a definition that are deleted from -/
noncomputable def eD (p:Z6×Nat):List D:=[.str p.1.aa,bP 10 p.2 p.1.az.nl p.1.az.l.length]++aL.c p.1.ax++[Sl.d 2 aD.c none p.1.aM]
structure bT where
 ip:Nat
 im:Nat
 ii:Nat
 fs:List Nat
def bT.all (i:bT):List Nat:=i.ip::i.im::i.ii::i.fs
noncomputable def fB (t:ag) (i:bT):cU:=⟨t.ak,t.aa,bP 1 i.ip t.aH.nl t.aH.l.length,Sl.d 2 aD.c none t.aM,Sl.d 5 eD none ⟨t.an.nl,t.an.l.zip i.fs⟩,bP 2 i.im t.au.nl t.au.l.length,bP 10 i.ii t.ay.nl t.ay.l.length⟩
/-- What the heap holds of a definition. -/
structure gX (h:af) (t:ag) (i:bT):Prop where
 len:i.fs.length=t.an.l.length
 ip:h i.ip=some (.arr 1 (t.aH.l.map aB))
 im:h i.im=some (.arr 2 (t.au.l.map Z8.c))
 ii:h i.ii=some (.arr 10 (t.ay.l.map Z7.c))
 fs:∀p∈t.an.l.zip i.fs,h p.2=some (.arr 10 (p.1.az.l.map Z7.c))
noncomputable def gJ (d:iT):List Z6->Bool->List Z6×Bool
 | [],ch=>([],ch)
 | f::l,ch=>bif (kX ⟨d,ch⟩ f.az).2.1||ga ⟨d,ch⟩ f.ax.aa then gJ d l true
  else(Z6.mk f.aa (kX ⟨d,ch⟩ f.az).1 f.ax f.aM::(gJ d l (kX ⟨d,ch⟩ f.az).2.2.gH).1,(gJ d l (kX ⟨d,ch⟩ f.az).2.2.gH).2)
/-- A heap with a cutter, a definition and a list of fields that grows. -/
noncomputable def dH (B:af) (c0 c1 tk:Nat) (C:cR) (T:List D) (n:Nat):af:=((B.set c0 (some (.cells (cR.c C)))).set c1 (some (.cells T))).set tk (some (.tok 5 n))
section
variable {B:af}{c0 c1 tk:Nat}{C C':cR}{T T':List D}{n n':Nat}
theorem pV (h1:c0≠c1) (b:c0≠tk):dH B c0 c1 tk C T n c0=some (.cells (cR.c C)):=by unfold dH; rw [af.aO _ _ b,af.aO _ _ h1,af.aS]
theorem iU (h:c1≠tk):dH B c0 c1 tk C T n c1=some (.cells T):=by unfold dH; rw [af.aO _ _ h,af.aS]
theorem F1:dH B c0 c1 tk C T n tk=some (.tok 5 n):=by unfold dH; rw [af.aS]
theorem oq {x:Nat}(h0:x≠c0) (h1:x≠c1) (b:x≠tk):dH B c0 c1 tk C T n x=B x:=by unfold dH; rw [af.aO _ _ b,af.aO _ _ h1,af.aO _ _ h0]
theorem set_comm {h:af}{a b:Nat}{x y:Option Ab.Obj}(g:a≠b):(h.set a x).set b y=(h.set b y).set a x:=by
 funext m
 by_cases e:m=b
 ·subst e; rw [af.aS,af.aO _ _ (fun e=>g e.symm),af.aS]
 rw [af.aO _ _ e];by_cases f:m=a
 ·subst f; rw [af.aS,af.aS]
 rw [af.aO _ _ f,af.aO _ _ f,af.aO _ _ e]
theorem xG {x:Nat}{o:Option Ab.Obj}(h0:x≠c0) (h1:x≠c1) (b:x≠tk):(dH B c0 c1 tk C T n).set x o=dH (B.set x o) c0 c1 tk C T n:=by
 unfold dH; rw [set_comm (fun e=>b e.symm),set_comm (fun e=>h1 e.symm),set_comm (fun e=>h0 e.symm)]
theorem F2 (h1:c0≠c1) (b:c0≠tk):(dH B c0 c1 tk C T n).set c0 (some (.cells (cR.c C')))=dH B c0 c1 tk C' T n:=by
 unfold dH; rw [set_comm (fun e=>b e.symm),set_comm (fun e=>h1 e.symm),af.set_set]
theorem CH (h:c1≠tk):(dH B c0 c1 tk C T n).set c1 (some (.cells T'))=dH B c0 c1 tk C T' n:=by
 unfold dH; rw [set_comm (fun e=>h e.symm),af.set_set]
theorem Xj:(dH B c0 c1 tk C T n).set tk (some (.tok 5 n'))=dH B c0 c1 tk C T n':=by unfold dH; rw [af.set_set]
theorem Xk (h0:B c0=some (.cells (cR.c C))) (h1:B c1=some (.cells T)):B.set tk (some (.tok 5 0))=dH B c0 c1 tk C T 0:=by
 unfold dH; rw [af.kf B c0 _ h0,af.kf B c1 _ h1]
end
/-- What holds while the fields are gone through: kz are kept, with the numbers of their arguments' objects. -/
structure kY (H:af) (d:iT) (t:ag) (ids:bT) (X:List Nat) (mU:Bool) (kz:List (Z6×Nat)) (i:Nat) (ch:Bool) (B:af):Prop where
 le:i<=t.an.l.length
 kl:kz.length<=i
 zV:(kz.map (·.1)++(gJ d (t.an.l.drop i) ch).1,(gJ d (t.an.l.drop i) ch).2)=gJ d t.an.l mU
 kh:∀p∈kz,B p.2=some (.arr 10 (p.1.az.l.map Z7.c))
 rh:∀p∈(t.an.l.zip ids.fs).drop i,B p.2=some (.arr 10 (p.1.az.l.map Z7.c))
 fp:∀x,x∉ids.fs->H x≠none->B x=H x
 new:∀p∈kz,p.2∈ids.fs\/H p.2=none
 nd:(kz.map (·.2)++ids.fs.drop i).Nodup
 rq:∀p∈kz,p.2∉X
theorem kY.start {H:af}{d:iT}{t:ag}{ids:bT}{X:List Nat}{mU:Bool}(f:gX H t ids) (hn:ids.fs.Nodup):kY H d t ids X mU [] 0 mU H :=
 ⟨Nat.zero_le _,Nat.zero_le _,by simp,fun p b=>(by cases b),by simpa using f.fs,fun _ _ _=>rfl,fun p b=>(by cases b),by simpa using hn,fun p b=>(by cases b)⟩
section
variable {H:af}{d:iT}{t:ag}{ids:bT}{X:List Nat}{mU ch:Bool}{kz:List (Z6×Nat)}{i:Nat}{B:af}{f:Z6}{k t':Nat}
theorem kY.here (h:kY H d t ids X mU kz i ch B) (hx:(t.an.l.zip ids.fs)[i]?=some (f,k)):B k=some (.arr 10 (f.az.l.map Z7.c)) :=
 h.rh (f,k) (List.mem_iff_getElem?.2 ⟨0,by rw [List.getElem?_drop,Nat.add_zero]; exact hx⟩)
theorem zW {l:List Z6}{fs:List Nat}(hx:(l.zip fs)[i]?=some (f,k)):l[i]?=some f/\fs[i]?=some k:=List.getElem?_zip_eq_some.1 hx
theorem kY.next (h:kY H d t ids X mU kz i ch B) (hl:ids.fs.length=t.an.l.length) (hx:(t.an.l.zip ids.fs)[i]?=some (f,k)) (ht:B t'=none) (I:∀x∈X,x≠t') (o:Ab.Obj) :
  (∀m,gJ d (t.an.l.drop i) ch=((gJ d (t.an.l.drop (i+1)) m).1,(gJ d (t.an.l.drop (i+1)) m).2)->kY H d t ids X mU kz (i+1) m ((B.set k none).set t' (some o))) /\
  (∀m f',o=.arr 10 (f'.az.l.map Z7.c)->gJ d (t.an.l.drop i) ch=(f'::(gJ d (t.an.l.drop (i+1)) m).1,(gJ d (t.an.l.drop (i+1)) m).2)->kY H d t ids X mU (kz++[(f',t')]) (i+1) m ((B.set k none).set t' (some o))):=by
 obtain⟨J,hk⟩:=zW hx;have z:i<t.an.l.length:=(List.getElem?_eq_some_iff.1 J).1;have K:i<ids.fs.length:=by omega
 have L:ids.fs.drop i=k::ids.fs.drop (i+1):=by rw [List.drop_eq_getElem_cons K]; congr 1; exact(List.getElem?_eq_some_iff.1 hk).2
 have hz:(t.an.l.zip ids.fs).drop i=(f,k)::(t.an.l.zip ids.fs).drop (i+1):=by
  have M:i<(t.an.l.zip ids.fs).length:=(List.getElem?_eq_some_iff.1 hx).1;rw [List.drop_eq_getElem_cons M]; congr 1; exact(List.getElem?_eq_some_iff.1 hx).2
 have C:=h.nd;rw [L] at C;have N:k∈ids.fs:=List.mem_of_getElem? hk;have O:=h.here hx;have bt:t'≠k:=fun e=>by rw [e,O] at ht; cases ht
 obtain⟨E,P,y⟩:=List.nodup_append.1 C;obtain⟨n4,F⟩:=List.nodup_cons.1 P;have u:∀p∈kz,p.2≠k/\p.2≠t':=fun p g=>⟨y _ (List.mem_map_of_mem g) _ (.head _),fun e=>by have:=h.kh p g; rw [e,ht] at this; cases this⟩;have Q:∀p∈(t.an.l.zip ids.fs).drop (i+1),p.2∈ids.fs.drop (i+1):=fun p g=>by
  obtain⟨q,hq⟩:=List.mem_iff_getElem?.1 g;rw [List.getElem?_drop] at hq;obtain⟨_,s⟩:=List.getElem?_zip_eq_some.1 hq;exact List.mem_iff_getElem?.2 ⟨q,by rw [List.getElem?_drop]; exact s⟩
 have rr:∀p∈(t.an.l.zip ids.fs).drop (i+1),p.2≠k/\p.2≠t'/\B p.2=some (.arr 10 (p.1.az.l.map Z7.c)):=fun p g=>by
  have hB:=h.rh p (by rw [hz]; exact .tail _ g);exact⟨fun e=>n4 (e▸Q p g),(fun e=>by rw [e,ht] at hB; cases hB),hB⟩
 have v:∀x,x≠k->x≠t'->((B.set k none).set t' (some o)) x=B x:=fun x h1 s=>by rw [af.aO _ _ s,af.aO _ _ h1]
 have G:∀x,x∉ids.fs->H x≠none->((B.set k none).set t' (some o)) x=H x:=fun x h1 s=>by
  have hB:=h.fp x h1 s;rw [v x (fun e=>h1 (e▸N)) (fun e=>s (by rw [<- hB,e,ht]))]; exact hB
 have R:t'∈ids.fs\/H t'=none:=by
  by_cases c1:t'∈ids.fs
  ·exact .inl c1
  refine .inr ?_;cases e:H t' with
  | none=>rfl
  | some o'=>have:=h.fp t' c1 (by rw [e]; simp); rw [ht,e] at this; cases this
 have S:(kz.map (·.2)++ids.fs.drop (i+1)).Nodup:=List.nodup_append.2 ⟨E,F,fun a j b r=>y a j b (.tail _ r)⟩;have w:=h.zV;refine⟨fun m e=>⟨z,Nat.le_succ_of_le h.kl,by rw [e] at w; exact w,fun p g=>by rw [v _ (u p g).1 (u p g).2]; exact h.kh p g,fun p g=>by rw [v _ (rr p g).1 (rr p g).2.1]; exact(rr p g).2.2,G,h.new,S,h.rq⟩,
  fun m f' U e=>⟨z,by rw [List.length_append]; exact Nat.succ_le_succ h.kl,by rw [e] at w; simpa using w,fun p g=>?_,fun p g=>by rw [v _ (rr p g).1 (rr p g).2.1]; exact(rr p g).2.2,G,fun p g=>?_, ?_,fun p g=>?_⟩⟩
 ·rcases List.mem_append.1 g with g|g
  ·rw [v _ (u p g).1 (u p g).2]; exact h.kh p g
  rw [List.mem_singleton.1 g,af.aS,U]
 ·rcases List.mem_append.1 g with g|g
  ·exact h.new p g
  rw [List.mem_singleton.1 g]; exact R
 ·rw [List.map_append];refine List.nodup_append.2 ⟨List.nodup_append.2 ⟨E,by simp,fun a j b r=>?_⟩,F,fun a j b r=>?_⟩
  ·obtain⟨p,g,rfl⟩:=List.mem_map.1 j;simp only [List.map_cons,List.map_nil,List.mem_singleton] at r;rw [r]; exact(u p g).2
  rcases List.mem_append.1 j with j|j
  ·exact y a j b (.tail _ r)
  simp only [List.map_cons,List.map_nil,List.mem_singleton] at j;intro e
  -- a fresh number is none of those that are left
  obtain⟨q,hq⟩:=List.mem_iff_getElem?.1 r;rw [List.getElem?_drop] at hq;have W:i+1+q<t.an.l.length:=by have:=(List.getElem?_eq_some_iff.1 hq).1; omega
  have Y:(t.an.l.zip ids.fs)[i+1+q]?=some (t.an.l[i+1+q],b):=List.getElem?_zip_eq_some.2 ⟨List.getElem?_eq_getElem W,hq⟩;have:=(rr _ (List.mem_iff_getElem?.2 ⟨q,by rw [List.getElem?_drop]; exact Y⟩)).2.1;exact this (by rw [<- e,j])
 rcases List.mem_append.1 g with g|g
 ·exact h.rq p g
 rw [List.mem_singleton.1 g]; exact fun hm=>I _ hm rfl
end
section
variable {B:af}{c0 c1 tk t id:Nat}{C C':cR}{T T':List D}{n n':Nat}{a X:Option Ab.Obj}
theorem CI (h:dH B c0 c1 tk C T n t=none) (j:c0≠c1) (k:c0≠tk) (l:c1≠tk):t≠c0/\t≠c1/\t≠tk/\B t=none:=by
 have b:t≠c0:=fun e=>by rw [e,pV j k] at h; cases h
 have f:t≠c1:=fun e=>by rw [e,iU l] at h; cases h
 have g:t≠tk:=fun e=>by rw [e,F1] at h; cases h
 exact⟨b,f,g,by rwa [oq b f g] at h⟩
theorem Xl (b:t≠id):((B.set t a).set id none).set t X=(B.set id none).set t X:=by rw [set_comm (h:=B) b,af.set_set]
theorem F3 (b:t≠id) (i0:id≠c0) (i1:id≠c1) (i2:id≠tk) (t0:t≠c0) (t1:t≠c1) (t2:t≠tk):((dH (B.set t a) c0 c1 tk C T n).set id none).set t X=dH ((B.set id none).set t X) c0 c1 tk C T n:=by
 rw [xG i0 i1 i2,xG t0 t1 t2,Xl b]
theorem M3 (b:c0≠c1) (f:c0≠tk) (g:t≠id) (i0:id≠c0) (i1:id≠c1) (i2:id≠tk) (t0:t≠c0) (t1:t≠c1) (t2:t≠tk) :
  ((((dH (B.set t a) c0 c1 tk C T n).set id none).set t X).set c0 (some (.cells (cR.c C'))))=dH ((B.set id none).set t X) c0 c1 tk C' T n:=by
 rw [F3 g i0 i1 i2 t0 t1 t2,F2 b f]
end
/-- Objects that belong to a definition, among those that lie in S or are new; X are the others at hand. -/
structure xH (H:af) (S X:List Nat) (O:List (Nat×Ab.Obj)) (B:af):Prop where
 has:∀p∈O,B p.1=some p.2
 nd:(O.map (·.1)).Nodup
 rq:∀p∈O,p.1∉X
 new:∀p∈O,p.1∈S\/H p.1=none
 fp:∀x,x∉S->H x≠none->B x=H x
theorem xH.step {H:af}{S X:List Nat}{A C:List (Nat×Ab.Obj)}{id t:Nat}{o o':Ab.Obj}{B:af}(h:xH H S X (A++(id,o)::C) B) (ht:B t=none) (w:∀x∈X,x≠t):xH H S X (A++(t,o')::C) ((B.set id none).set t (some o')):=by
 have hid:B id=some o:=h.has (id,o) (by simp);have r:=h.nd;rw [List.map_append,List.map_cons] at r;obtain⟨y,z,s⟩:=List.nodup_append.1 r;obtain⟨n4,E⟩:=List.nodup_cons.1 z;have ne:∀p,p∈A\/p∈C->p.1≠id/\p.1≠t:=fun p g=>by
  have j:B p.1=some p.2:=h.has p (by rcases g with g|g<;>simp [g]);refine⟨fun e=>?_,fun e=>by rw [e,ht] at j; cases j⟩;rcases g with g|g
  ·exact s _ (List.mem_map_of_mem g) _ (.head _) e
  have hm:=List.mem_map_of_mem (f:=fun q:Nat×Ab.Obj=>q.1) g;rw [e] at hm; exact n4 hm
 have u:∀x,x≠id->x≠t->((B.set id none).set t (some o')) x=B x:=fun x h1 k=>by rw [af.aO _ _ k,af.aO _ _ h1]
 have cN:∀p,p∈A++(t,o')::C->p=(t,o')\/p∈A\/p∈C:=fun p g=>by
  rcases List.mem_append.1 g with g|g
  ·exact .inr (.inl g)
  rcases List.mem_cons.1 g with g|g
  ·exact .inl g
  exact .inr (.inr g)
 have l:∀p,p∈A\/p∈C->p∈A++(id,o)::C:=fun p g=>by rcases g with g|g<;>simp [g]
 refine⟨fun p g=>?_, ?_,fun p g=>?_,fun p g=>?_,fun x h1 k=>?_⟩
 ·rcases cN p g with rfl|g
  ·exact af.aS _ _ _
  rw [u _ (ne p g).1 (ne p g).2]; exact h.has p (l p g)
 ·rw [List.map_append,List.map_cons];refine List.nodup_append.2 ⟨y,List.nodup_cons.2 ⟨fun hm=>?_,E⟩,fun a v b j=>?_⟩
  ·obtain⟨p,g,e⟩:=List.mem_map.1 hm;exact(ne p (.inr g)).2 e
  rcases List.mem_cons.1 j with j|j
  ·obtain⟨p,g,rfl⟩:=List.mem_map.1 v;rw [j]; exact(ne p (.inl g)).2
  exact s a v b (.tail _ j)
 ·rcases cN p g with rfl|g
  ·exact fun hm=>w _ hm rfl
  exact h.rq p (l p g)
 ·rcases cN p g with rfl|g
  ·by_cases c1:t∈S
   ·exact .inl c1
   refine .inr ?_;cases e:H t with
   | none=>rfl
   | some q=>have:=h.fp t c1 (by rw [e]; simp); rw [ht,e] at this; cases this
  exact h.new p (l p g)
 have hB:=h.fp x h1 k;have F:x≠id:=fun e=>by
  rcases h.new (id,o) (by simp) with m|m
  ·exact h1 (e▸m)
  exact k (e▸m)
 have G:x≠t:=fun e=>k (by rw [<- hB,e,ht]);rw [u x F G]; exact hB
noncomputable def iV (f:Z6):Ab.Obj:=.arr 10 (f.az.l.map Z7.c)
theorem CJ (kz:List (Z6×Nat)):(kz.map (·.1)).zip (kz.map (·.2))=kz:=by
 induction kz with
 | nil=>rfl
 | cons a r b=>simp [b]
/-- What the heap holds of a definition, as a list. -/
noncomputable def fN (t:ag) (i:bT):List (Nat×Ab.Obj):=(i.ip,.arr 1 (t.aH.l.map aB))::(i.im,.arr 2 (t.au.l.map Z8.c))::(i.ii,.arr 10 (t.ay.l.map Z7.c))::(t.an.l.zip i.fs).map fun p=>(p.2,iV p.1)
theorem kY.done {H:af}{d:iT}{t:ag}{ids:bT}{X:List Nat}{mU ch:Bool}{kz:List (Z6×Nat)}{B:af}(h:kY H d t ids X mU kz t.an.l.length ch B) (f:gX H t ids) (hn:ids.all.Nodup) (j:∀x∈ids.all,x∉X) :
  (kz.map (·.1),ch)=gJ d t.an.l mU/\xH H ids.all X ((ids.ip,.arr 1 (t.aH.l.map aB))::(ids.im,.arr 2 (t.au.l.map Z8.c))::(ids.ii,.arr 10 (t.ay.l.map Z7.c))::kz.map fun p=>(p.2,iV p.1)) B:=by
 have hm:=h.zV;rw [List.drop_length] at hm;simp only [gJ,List.append_nil] at hm;have g:ids.all=ids.ip::ids.im::ids.ii::ids.fs:=rfl;rw [g] at hn;simp only [List.nodup_cons,List.mem_cons,not_or] at hn;obtain⟨⟨a1,a2,a3⟩,⟨s,m⟩,c1,c2⟩:=hn;have o1:=h.fp _ a3 (by rw [f.ip]; simp);have o2:=h.fp _ m (by rw [f.im]; simp);have r:=h.fp _ c1 (by rw [f.ii]; simp);rw [f.ip] at o1; rw [f.im] at o2; rw [f.ii] at r
 have k:∀p∈kz,p.2≠ids.ip/\p.2≠ids.im/\p.2≠ids.ii:=fun p b=>by
  have u:=h.kh p b;rcases h.new p b with h1|h1
  ·exact⟨fun e=>a3 (e▸h1),fun e=>m (e▸h1),fun e=>c1 (e▸h1)⟩
  exact⟨(fun e=>by rw [e,f.ip] at h1; cases h1),(fun e=>by rw [e,f.im] at h1; cases h1),(fun e=>by rw [e,f.ii] at h1; cases h1)⟩
 refine⟨hm,fun p b=>?_, ?_,fun p b=>?_,fun p b=>?_,fun x hx=>h.fp x fun hm=>hx (by rw [g]; simp [hm])⟩
 ·simp only [List.mem_cons,List.mem_map] at b;rcases b with rfl|rfl|rfl|⟨q,hq,rfl⟩
  ·exact o1
  ·exact o2
  ·exact r
  exact h.kh q hq
 ·have hk:=(List.nodup_append.1 h.nd).1;simp only [List.map_cons,List.map_map,List.nodup_cons,List.mem_cons,List.mem_map,not_or,Function.comp_apply];refine⟨⟨a1,a2,fun⟨q,hq,e⟩=>(k q hq).1 e⟩,⟨s,fun⟨q,hq,e⟩=>(k q hq).2.1 e⟩,fun⟨q,hq,e⟩=>(k q hq).2.2 e,hk⟩
 ·simp only [List.mem_cons,List.mem_map] at b;rcases b with rfl|rfl|rfl|⟨q,hq,rfl⟩
  ·exact j _ (by rw [g]; simp)
  ·exact j _ (by rw [g]; simp)
  ·exact j _ (by rw [g]; simp)
  exact h.rq q hq
 simp only [List.mem_cons,List.mem_map] at b;rcases b with rfl|rfl|rfl|⟨q,hq,rfl⟩
 ·exact .inl (by rw [g]; simp)
 ·exact .inl (by rw [g]; simp)
 ·exact .inl (by rw [g]; simp)
 rcases h.new q hq with h1|h1
 ·exact .inl (by rw [g]; simp [h1])
 exact .inr h1
noncomputable def ot (c:cR) (t:ag):Sl Z7×Bool×cR:=kX ⟨c.Fd,(gJ c.Fd t.an.l c.gH).2⟩ t.ay
noncomputable def mV (c:cR) (t:ag):Sl Z8:=bif decide (t.ak=(3:Int)) then⟨t.au.nl,t.au.l.filter fun x=>!mS x (ot c t).2.2⟩ else t.au
noncomputable def xI (c:cR) (t:ag):Sl Bs:=⟨t.aH.nl,t.aH.l.filter fun x=>!ga (ot c t).2.2 x⟩
noncomputable def jL (c:cR) (t:ag):Bool:=(ot c t).2.2.gH||decide ((((mV c t).l.length:Nat):Int)+(((xI c t).l.length:Nat):Int)<((t.au.l.length:Nat):Int)+((t.aH.l.length:Nat):Int))
noncomputable def vf (c:cR) (t:ag):List Z6:=(gJ c.Fd t.an.l c.gH).1
noncomputable def mW (c:cR) (t:ag):ag:=ag.mk t.ak t.aa (xI c t) t.aM ⟨(vf c t).isEmpty,vf c t⟩ (mV c t) (ot c t).1
noncomputable def ou (c:cR) (t:ag):Bool :=
 bif (bif decide (t.ak=(1:Int)) then decide (t.ak=(1:Int)) else decide (t.ak=(2:Int))) then decide ((0:Int)<(((vf c t).length:Nat):Int)) else
 bif (bif decide (t.ak=(3:Int)) then decide (t.ak=(3:Int)) else decide (t.ak=(4:Int))) then decide ((0:Int)<(((mV c t).l.length:Nat):Int)) else
 (!(ot c t).2.1)&&decide ((0:Int)<(((ot c t).1.l.length:Nat):Int))
structure xJ (H h':af) (c0 c1:Nat) (ids:bT) (c':cR) (t':ag):Prop where
 out:∃iW:bT,h' c0=some (.cells (cR.c c'))/\h' c1=some (.cells (cU.c (fB t' iW)))/\gX h' t' iW/\(c0::c1::iW.all).Nodup/\(∀x∈iW.all,x∈ids.all\/H x=none)
 fp:∀x,x≠c0->x≠c1->x∉ids.all->H x≠none->h' x=H x
theorem M4 {α:Type}{z:Nat}{kz:List α}{x:α}(h:(kz.length+1)*z<=cC/\kz.length+1<=cC):bf z (⟨kz.isEmpty,kz⟩:Sl α) (⟨false,[x]⟩:Sl α)=some ⟨(kz++[x]).isEmpty,kz++[x]⟩:=by
 unfold bf;rw [if_pos (by simpa using h)];simp
theorem xJ.of {H B:af}{c0 c1 tk:Nat}{ids:bT}{c':cR}{t':ag}{kz:List (Z6×Nat)}{n ip im ii:Nat}{nl:Bool}(ht:t'.an=⟨nl,kz.map (·.1)⟩) (g:c0≠c1) (m:c0≠tk) (q:c1≠tk) (hk:H tk=none)
  (h:xH H ids.all [c0,c1,tk] ((ip,.arr 1 (t'.aH.l.map aB))::(im,.arr 2 (t'.au.l.map Z8.c))::(ii,.arr 10 (t'.ay.l.map Z7.c))::kz.map fun p=>(p.2,iV p.1)) B) :
  xJ H (dH B c0 c1 tk c' (cU.c (fB t' ⟨ip,im,ii,kz.map (·.2)⟩)) n) c0 c1 ids c' t':=by
 have ne:∀p∈((ip,Ab.Obj.arr 1 (t'.aH.l.map aB))::(im,.arr 2 (t'.au.l.map Z8.c))::(ii,.arr 10 (t'.ay.l.map Z7.c))::kz.map fun p=>(p.2,iV p.1)),p.1≠c0/\p.1≠c1/\p.1≠tk:=fun p f=>by
  have:=h.rq p f
  simpa using this
 have at_:∀p∈((ip,Ab.Obj.arr 1 (t'.aH.l.map aB))::(im,.arr 2 (t'.au.l.map Z8.c))::(ii,.arr 10 (t'.ay.l.map Z7.c))::kz.map fun p=>(p.2,iV p.1)),dH B c0 c1 tk c' (cU.c (fB t' ⟨ip,im,ii,kz.map (·.2)⟩)) n p.1=some p.2:=fun p f=>by
  obtain⟨a,b,c⟩:=ne p f;rw [oq a b c]; exact h.has p f
 have j:(bT.mk ip im ii (kz.map (·.2))).all=(((ip,Ab.Obj.arr 1 (t'.aH.l.map aB))::(im,.arr 2 (t'.au.l.map Z8.c))::(ii,.arr 10 (t'.ay.l.map Z7.c))::kz.map fun p=>(p.2,iV p.1)).map (·.1)):=by
  simp [bT.all]
 have hz:t'.an.l.zip (kz.map (·.2))=kz:=by rw [ht]; exact CJ kz
 refine⟨⟨⟨ip,im,ii,kz.map (·.2)⟩,pV g m,iU q,⟨by rw [ht]; simp,at_ (ip,_) (by simp),at_ (im,_) (by simp),at_ (ii,_) (by simp),fun p f=>?_⟩, ?_,fun x hx=>?_⟩,fun x h0 h1 r k=>?_⟩
 ·dsimp only at f;rw [hz] at f;exact at_ (p.2,iV p.1) (by simp only [List.mem_cons,List.mem_map]; exact .inr (.inr (.inr ⟨p,f,rfl⟩)))
 ·rw [j];refine List.nodup_cons.2 ⟨fun hm=>?_,List.nodup_cons.2 ⟨fun hm=>?_,h.nd⟩⟩
  ·rcases List.mem_cons.1 hm with e|hm
   ·exact g e
   obtain⟨p,f,e⟩:=List.mem_map.1 hm;exact(ne p f).1 e
  obtain⟨p,f,e⟩:=List.mem_map.1 hm;exact(ne p f).2.1 e
 ·rw [j] at hx;obtain⟨p,f,rfl⟩:=List.mem_map.1 hx;exact h.new p f
 have s:x≠tk:=fun e=>k (e▸hk);rw [oq h0 h1 s]; exact h.fp x r k
theorem CK {a b c t:Nat}(h1:t≠a) (f:t≠b) (g:t≠c):∀x∈[a,b,c],x≠t:=by
 intro x hx e;simp only [List.mem_cons,List.not_mem_nil,or_false] at hx;rcases hx with h|h|h
 ·exact h1 (e.symm.trans h)
 ·exact f (e.symm.trans h)
 exact g (e.symm.trans h)
noncomputable def aC (t:ag) (P F M b:D):List D:=cU.c ⟨t.ak,t.aa,P,Sl.d 2 aD.c none t.aM,F,M,b⟩
theorem Xm (c:cR) (t:ag):(mV c t).l.length<=t.au.l.length:=by
 unfold mV;cases decide (t.ak=(3:Int))
 ·exact Nat.le_refl _
 exact List.length_filter_le _ _
theorem Xn {c:cR}{t:ag}{ids:bT}{c0 c1:Nat}{H:af}(hB:t.an.l.length<=1000000) (a':t.au.l.length<=1000000) (ba:t.aH.l.length<=1000000) (bX:H c0=some (.cells (cR.c c))) (aP:H c1=some (.cells (cU.c (fB t ids)))) (G:gX H t ids) (bb:(c0::c1::ids.all).Nodup) :
  AC Tryz.prog 43 [.d (.ptr c0 0),.d (.ptr c1 0)] H fun v h'=>v=.a (.d (.bool (ou c t)))/\xJ H h' c0 c1 ids ⟨c.Fd,jL c t⟩ (mW c t):=by
 obtain⟨m0,m1⟩:=List.nodup_cons.1 bb;obtain⟨m1,aQ⟩:=List.nodup_cons.1 m1;have j:c0≠c1:=fun e=>m0 (e▸.head _);have bc:ids.fs.Nodup:=by have:=aQ; simp only [bT.all,List.nodup_cons] at this; exact this.2.2.2
 refine AC.oW 149 [.tmp 4] Tryz.call43 Tryz.func43 ?_;refine ah.tok 5 fun tk bt=>?_;have u:c0≠tk:=fun e=>by rw [<- e,bX] at bt; cases bt
 have g:c1≠tk:=fun e=>by rw [<- e,aP] at bt; cases bt
 have bd:∀x∈ids.all,H x≠none:=fun x hx=>by
  simp only [bT.all,List.mem_cons] at hx;rcases hx with rfl|rfl|rfl|hx
  ·rw [G.ip];simp
  ·rw [G.im];simp
  ·rw [G.ii];simp
  obtain⟨q,hq⟩:=List.mem_iff_getElem?.1 hx;have be:q<t.an.l.length:=by have:=(List.getElem?_eq_some_iff.1 hq).1; rw [G.len] at this; exact this
  rw [G.fs (t.an.l[q],x) (List.mem_iff_getElem?.2 ⟨q,List.getElem?_zip_eq_some.2 ⟨List.getElem?_eq_getElem be,hq⟩⟩)];simp
 have O:∀x∈ids.all,x≠c0/\x≠c1/\x≠tk:=fun x hx=>⟨fun e=>m0 (.tail _ (e▸hx)),fun e=>m1 (e▸hx),fun e=>bd x hx (e▸bt)⟩;have bf:∀x∈ids.all,x∉[c0,c1,tk]:=fun x hx=>by obtain⟨a,b,d⟩:=O x hx; simp [a,b,d]
 refine ah.jR (h':=dH H c0 c1 tk c (cU.c (fB t ids)) 0) (Xk bX aP) ?_;refine Y7 ?_;refine ah.fK 5 5 tk rfl F1 ?_;refine aR (tl [1,2]) (fun(z:List (Z6×Nat)×Bool×af)=>[(5,.a (.d (Sl.d 5 eD (some tk) ⟨z.1.isEmpty,z.1⟩)))]) (fun z=>dH z.2.2 c0 c1 tk ⟨c.Fd,z.2.1⟩ (cU.c (fB t ids)) z.1.length) (fun z=>kY H c.Fd t ids [c0,c1,tk] c.gH z.1 t.an.l.length z.2.1 z.2.2) ?_ ?_
 ·intro bI bg;refine Y4 ?_;refine s0 (eM (TK rfl) rfl rfl (iU g) rfl) rfl ?_;refine sLen (f:=eD) (s:=⟨t.an.nl,t.an.l.zip ids.fs⟩) (TK rfl) rfl rfl rfl rfl fun bJ=>?_;refine Y3 ?_
  refine bD (tl [1,2,14,15]) (fun(z:List (Z6×Nat)×Nat×Bool×af)=>[(5,.a (.d (Sl.d 5 eD (some tk) ⟨z.1.isEmpty,z.1⟩))),(16,vi z.2.1)]) (fun z=>dH z.2.2.2 c0 c1 tk ⟨c.Fd,z.2.2.1⟩ (cU.c (fB t ids)) z.1.length) (fun z=>t.an.l.length-z.2.1) (fun z=>kY H c.Fd t ids [c0,c1,tk] c.gH z.1 z.2.1 z.2.2.1 z.2.2.2) ([],0,c.gH,H) (kY.start G bc) wA ?_;rintro ⟨kz,i,ch,B⟩ F bK bh;dsimp only at F
  have bL:(t.an.l.zip ids.fs).length=t.an.l.length:=by rw [List.length_zip,G.len,Nat.min_self]
  refine Y3 ?_;refine ar fun bM bi=>?_;refine ah.cond rfl (fun hc=>?_) (fun hc=>?_)
  ·dsimp only at hc;have hi:i<(t.an.l.zip ids.fs).length:=by have:=oD hc; omega
   obtain⟨⟨f,k⟩,hx⟩:∃p,(t.an.l.zip ids.fs)[i]?=some p:=⟨_,List.getElem?_eq_getElem hi⟩;have bj:k∈ids.all:=by
    have:=List.mem_of_getElem? (List.getElem?_zip_eq_some.1 hx).2;simp [bT.all,this]
   obtain⟨ad,aT,k2⟩:=O k bj;have bk:(t.an.l.drop i)=f::t.an.l.drop (i+1):=by
    have h1:=(List.getElem?_zip_eq_some.1 hx).1;have bl:=(List.getElem?_eq_some_iff.1 h1).1;rw [List.drop_eq_getElem_cons bl];congr 1;exact(List.getElem?_eq_some_iff.1 h1).2
   refine sk bi (aR (tl [1,2,14,15,16]) (fun(z:List (Z6×Nat)×Bool×af)=>[(5,.a (.d (Sl.d 5 eD (some tk) ⟨z.1.isEmpty,z.1⟩)))]) (fun z=>dH z.2.2 c0 c1 tk ⟨c.Fd,z.2.1⟩ (cU.c (fB t ids)) z.1.length) (fun z=>kY H c.Fd t ids [c0,c1,tk] c.gH z.1 (i+1) z.2.1 z.2.2) ?_ ?_)
   ·intro bN aU;refine Y2 ?_;refine s0 (AH (f:=eD) (n:=i) (s:=⟨t.an.nl,t.an.l.zip ids.fs⟩) (TK rfl) rfl (TK rfl) rfl rfl rfl hx) rfl ?_;refine Y7 ?_;refine ah.rQ 10 fun t' bm=>?_;obtain⟨t0,t1,t2,I⟩:=CI bm j u g;have I:B t'=none:=I;have bo:∀x∈[c0,c1,tk],x≠t':=CK t0 t1 t2;have ae:t'≠k:=fun e=>by have:=F.here hx; rw [<- e,I] at this; cases this
    refine ah.jR (h':=dH (B.set t' (some (.arr 10 []))) c0 c1 tk ⟨c.Fd,ch⟩ (cU.c (fB t ids)) kz.length) (xG t0 t1 t2) ?_;refine Y4 ?_
    refine sH (bS rfl rfl (M2 (c:=⟨c.Fd,ch⟩) (s:=f.az) (id:=k) (t:=t') (pV j u) (by rw [oq ad aT k2,af.aO _ _ (fun e=>ae e.symm)]; exact F.here hx) (by rw [oq t0 t1 t2]; exact af.aS _ _ _) (fun e=>ad e.symm) (fun e=>t0 e.symm) ae)) rfl ?_;generalize J:kX ⟨c.Fd,ch⟩ f.az=y;have ai:y.2.2=⟨c.Fd,y.2.2.gH⟩:=by rw [<- J]; rfl
    refine aJ.fP (h':=dH ((B.set k none).set t' (some (.arr 10 (y.1.l.map Z7.c)))) c0 c1 tk ⟨c.Fd,y.2.2.gH⟩ (cU.c (fB t ids)) kz.length) (by rw [M3 j u ae ad aT k2 t0 t1 t2,<- ai]) ?_;refine Y7 ?_;refine ar fun bO bp=>Y5 ?_;refine gC rfl rfl (fun hC=>nq (k:=31) rfl (nj (TK rfl) rfl rfl (TK rfl) rfl rfl)) rfl ?_
    refine gC rfl rfl (fun hC=>nq (k:=32) rfl (jP (TK rfl) rfl rfl rfl rfl)) rfl ?_;refine e9 30 33 rfl rfl (fun hC=>eY rfl rfl (zU (a0:=⟨c.Fd,y.2.2.gH⟩) (a1:=f.ax.aa) rfl _ (pV j u))) ?_;refine Y2 ?_;have aV:=F.next G.len hx I bo (.arr 10 (y.1.l.map Z7.c))
    have R:gJ c.Fd (t.an.l.drop i) ch=bif y.2.1||ga ⟨c.Fd,y.2.2.gH⟩ f.ax.aa then gJ c.Fd (t.an.l.drop (i+1)) true
      else(Z6.mk f.aa y.1 f.ax f.aM::(gJ c.Fd (t.an.l.drop (i+1)) y.2.2.gH).1,(gJ c.Fd (t.an.l.drop (i+1)) y.2.2.gH).2):=by
     rw [bk,gJ,J];rfl
    refine ah.cond rfl (fun w=>?_) (fun w=>?_)
    ·skip;rw [w,cond_true] at R;refine Y4 ?_;refine dG (gv (TK rfl) rfl rfl (pV j u) rfl (by repeat (first|exact bn.zero|apply bn.succ))) rfl rfl ?_;refine aJ.fP (h':=dH ((B.set k none).set t' (some (.arr 10 (y.1.l.map Z7.c)))) c0 c1 tk ⟨c.Fd,true⟩ (cU.c (fB t ids)) kz.length) (F2 (C':=⟨c.Fd,true⟩) j u) ?_;refine Y1 ?_;refine ah.exit ?_
     exact aU _ (kz,true,(B.set k none).set t' (some (.arr 10 (y.1.l.map Z7.c)))) wA (aV.1 true R)
    skip;rw [w,cond_false] at R;refine sk bp (Y4 ?_);have bQ:=F.kl;refine sH (iM (f:=eD) (s:=⟨kz.isEmpty,kz⟩) (r:=⟨false,[(Z6.mk f.aa y.1 f.ax f.aM,t')]⟩) (TK rfl) rfl (TK rfl) (TK rfl) ⟨_,rfl⟩ rfl rfl (by decide) rfl rfl rfl rfl F1 rfl (M4 (z:=104) (by unfold cC; omega))) rfl ?_
    refine aJ.fP (h':=dH ((B.set k none).set t' (some (.arr 10 (y.1.l.map Z7.c)))) c0 c1 tk ⟨c.Fd,y.2.2.gH⟩ (cU.c (fB t ids)) (kz++[(Z6.mk f.aa y.1 f.ax f.aM,t')]).length) Xj ?_;refine Y2 ?_;exact aU _ (kz++[(Z6.mk f.aa y.1 f.ax f.aM,t')],y.2.2.gH,(B.set k none).set t' (some (.arr 10 (y.1.l.map Z7.c)))) wA (aV.2 y.2.2.gH (Z6.mk f.aa y.1 f.ax f.aM) rfl R)
   rintro ⟨bq,br,bs⟩ aW;dsimp only at aW;refine Y1 ?_;refine s0 (p6 rfl rfl (by dsimp only; omega) (by dsimp only; omega)) rfl ?_;refine Y2 ?_;exact bh _ (bq,i+1,br,bs) wA aW (by show t.an.l.length-(i+1)<t.an.l.length-i; omega)
  dsimp only at hc;have hi:¬i<(t.an.l.zip ids.fs).length:=by have:=of_decide_eq_false hc; omega
  have bu:i=t.an.l.length:=by have:=F.le; omega
  refine ah.exit ?_;exact bg _ (kz,ch,B) wA (bu▸F)
 rintro ⟨kz,ch,B⟩ F;dsimp only at F;obtain⟨hm,hO⟩:=F.done G aQ bf;have aX:vf c t=kz.map (·.1):=by unfold vf; rw [<- hm]
 have aY:ot c t=kX ⟨c.Fd,ch⟩ t.ay:=by unfold ot; rw [<- hm]
 refine Y5 ?_;refine aJ.dV 45 rfl ?_;refine dG (gv (TK rfl) rfl rfl (iU g) rfl (by repeat (first|exact bn.zero|apply bn.succ))) rfl rfl ?_
 refine aJ.fP (h':=dH B c0 c1 tk ⟨c.Fd,ch⟩ (aC t (bP 1 ids.ip t.aH.nl t.aH.l.length) (Sl.d 5 eD none ⟨kz.isEmpty,kz⟩) (bP 2 ids.im t.au.nl t.au.l.length) (bP 10 ids.ii t.ay.nl t.ay.l.length)) kz.length) (CH g) ?_;refine Y4 ?_;refine ah.rQ 10 fun t3 bv=>?_;obtain⟨a0,a1,ab,I⟩:=CI bv j u g;have I:B t3=none:=I
 obtain⟨i0,i1,i2⟩:=O ids.ii (by simp [bT.all]);have aj:B ids.ii=some (.arr 10 (t.ay.l.map Z7.c)):=hO.has (ids.ii,_) (by simp);have al:t3≠ids.ii:=fun e=>by rw [<- e,I] at aj; cases aj
 refine ah.jR (h':=dH (B.set t3 (some (.arr 10 []))) c0 c1 tk ⟨c.Fd,ch⟩ (aC t (bP 1 ids.ip t.aH.nl t.aH.l.length) (Sl.d 5 eD none ⟨kz.isEmpty,kz⟩) (bP 2 ids.im t.au.nl t.au.l.length) (bP 10 ids.ii t.ay.nl t.ay.l.length)) kz.length) (xG a0 a1 ab) ?_;refine Y6 ?_;refine aN.s0 (eM (TK rfl) rfl rfl (iU g) rfl) rfl ?_
 refine aN.sH (bS rfl rfl (M2 (c:=⟨c.Fd,ch⟩) (s:=t.ay) (id:=ids.ii) (t:=t3) (pV j u) (by rw [oq i0 i1 i2,af.aO _ _ (fun e=>al e.symm)]; exact aj) (by rw [oq a0 a1 ab]; exact af.aS _ _ _) (fun e=>i0 e.symm) (fun e=>a0 e.symm) al)) rfl ?_;rw [<- aY];generalize J:ot c t=y;have ai:y.2.2=⟨c.Fd,y.2.2.gH⟩:=by rw [<- J,aY]; rfl
 refine aN.fP (h':=dH ((B.set ids.ii none).set t3 (some (.arr 10 (y.1.l.map Z7.c)))) c0 c1 tk y.2.2 (aC t (bP 1 ids.ip t.aH.nl t.aH.l.length) (Sl.d 5 eD none ⟨kz.isEmpty,kz⟩) (bP 2 ids.im t.au.nl t.au.l.length) (bP 10 ids.ii t.ay.nl t.ay.l.length)) kz.length) (M3 j u al i0 i1 i2 a0 a1 ab) ?_;refine Y5 ?_
 refine aN.dG (gv (TK rfl) rfl rfl (iU g) rfl (by repeat (first|exact bn.zero|apply bn.succ))) rfl rfl ?_
 refine aN.fP (h':=dH ((B.set ids.ii none).set t3 (some (.arr 10 (y.1.l.map Z7.c)))) c0 c1 tk y.2.2 (aC t (bP 1 ids.ip t.aH.nl t.aH.l.length) (Sl.d 5 eD none ⟨kz.isEmpty,kz⟩) (bP 2 ids.im t.au.nl t.au.l.length) (bP 10 t3 y.1.nl y.1.l.length)) kz.length) (CH g) ?_;refine Y2 ?_;have S:=hO.step (A:=[_,_]) I (CK a0 a1 ab) (o':=.arr 10 (y.1.l.map Z7.c))
 generalize (B.set ids.ii none).set t3 (some (.arr 10 (y.1.l.map Z7.c)))=L at S ⊢;refine Y4 ?_;refine aN.s0 (eM (TK rfl) rfl rfl (iU g) rfl) rfl ?_;refine aN.s0 (rS (k:=2) (id:=ids.im) (nl:=t.au.nl) (m:=t.au.l.length) (TK rfl) rfl rfl rfl) rfl ?_;refine Y3 ?_;refine aN.s0 (eM (TK rfl) rfl rfl (iU g) rfl) rfl ?_
 refine aN.s0 (rS (k:=1) (id:=ids.ip) (nl:=t.aH.nl) (m:=t.aH.l.length) (TK rfl) rfl rfl rfl) rfl ?_;refine aN.s0 (p6 rfl rfl (by omega) (by omega)) rfl ?_;refine Y2 ?_;have aZ:mV c t=bif decide (t.ak=(3:Int)) then⟨t.au.nl,t.au.l.filter fun x=>!mS x y.2.2⟩ else t.au:=by unfold mV; rw [J]
 have am:xI c t=⟨t.aH.nl,t.aH.l.filter fun x=>!ga y.2.2 x⟩:=by unfold xI; rw [J]
 refine aR (tl [1,2,9,10]) (fun(z:Sl Z8×Nat×af)=>[]) (fun z=>dH z.2.2 c0 c1 tk y.2.2 (aC t (bP 1 ids.ip t.aH.nl t.aH.l.length) (Sl.d 5 eD none ⟨kz.isEmpty,kz⟩) (bP 2 z.2.1 z.1.nl z.1.l.length) (bP 10 t3 y.1.nl y.1.l.length)) kz.length)
  (fun z=>z.1=mV c t/\xH H ids.all [c0,c1,tk] ((ids.ip,.arr 1 (t.aH.l.map aB))::(z.2.1,.arr 2 (z.1.l.map Z8.c))::(t3,.arr 10 (y.1.l.map Z7.c))::kz.map fun p=>(p.2,iV p.1)) z.2.2) ?_ ?_
 ·intro bR a2;refine Y4 ?_;refine s0 (eM (TK rfl) rfl rfl (iU g) rfl) rfl ?_;refine Y2 ?_;refine ah.cond rfl (fun w=>?_) (fun w=>?_)
  ·have K:(⟨t.au.nl,t.au.l.filter fun x=>!mS x y.2.2⟩:Sl Z8)=mV c t:=by rw [aZ,w]; rfl
   refine ah.rQ 2 fun t4 bw=>?_;obtain⟨U,W,X,a3⟩:=CI bw j u g;obtain⟨j0,a4,a5⟩:=O ids.im (by simp [bT.all]);have ao:L ids.im=some (.arr 2 (t.au.l.map Z8.c)):=S.has (ids.im,_) (by simp);have ap:t4≠ids.im:=fun e=>by rw [<- e,a3] at ao; cases ao
   refine ah.jR (h':=dH (L.set t4 (some (.arr 2 []))) c0 c1 tk y.2.2 (aC t (bP 1 ids.ip t.aH.nl t.aH.l.length) (Sl.d 5 eD none ⟨kz.isEmpty,kz⟩) (bP 2 ids.im t.au.nl t.au.l.length) (bP 10 t3 y.1.nl y.1.l.length)) kz.length) (xG U W X) ?_;refine Y5 ?_;refine s0 (eM (TK rfl) rfl rfl (iU g) rfl) rfl ?_;refine s0 (makeFunc rfl) rfl ?_
   refine sH (bS rfl rfl (Xh (s:=t.au) (id:=ids.im) (t:=t4) (p:=fun x=>mS x y.2.2) (by rw [oq j0 a4 a5,af.aO _ _ (fun e=>ap e.symm)]; exact ao) (by rw [oq U W X]; exact af.aS _ _ _) ap (fun x av aw=>W9 (a0:=x) (a1:=y.2.2) rfl av (by rw [aw c0 (fun e=>j0 e.symm)]; exact pV j u)))) rfl ?_
   refine aJ.fP (h':=dH ((L.set ids.im none).set t4 (some (.arr 2 ((t.au.l.filter fun x=>!mS x y.2.2).map Z8.c)))) c0 c1 tk y.2.2 (aC t (bP 1 ids.ip t.aH.nl t.aH.l.length) (Sl.d 5 eD none ⟨kz.isEmpty,kz⟩) (bP 2 ids.im t.au.nl t.au.l.length) (bP 10 t3 y.1.nl y.1.l.length)) kz.length) (F3 ap j0 a4 a5 U W X) ?_;refine Y2 ?_
   refine dG (gv (TK rfl) rfl rfl (iU g) rfl (by repeat (first|exact bn.zero|apply bn.succ))) rfl rfl ?_
   refine aJ.fP (h':=dH ((L.set ids.im none).set t4 (some (.arr 2 ((t.au.l.filter fun x=>!mS x y.2.2).map Z8.c)))) c0 c1 tk y.2.2 (aC t (bP 1 ids.ip t.aH.nl t.aH.l.length) (Sl.d 5 eD none ⟨kz.isEmpty,kz⟩) (bP 2 t4 t.au.nl (t.au.l.filter fun x=>!mS x y.2.2).length) (bP 10 t3 y.1.nl y.1.l.length)) kz.length) (CH g) ?_;refine Y1 ?_
   exact a2 _ (⟨t.au.nl,t.au.l.filter fun x=>!mS x y.2.2⟩,t4,(L.set ids.im none).set t4 (some (.arr 2 ((t.au.l.filter fun x=>!mS x y.2.2).map Z8.c)))) wA ⟨K,S.step (A:=[_]) a3 (CK U W X)⟩
  have K:t.au=mV c t:=by rw [aZ,w]; rfl
  refine ah.skip ?_;exact a2 _ (t.au,ids.im,L) wA ⟨K,S⟩
 rintro ⟨M,C,N⟩ ⟨K,aD⟩;dsimp only at K aD;have bU:M.l.length<=1000000:=by rw [K]; exact Nat.le_trans (Xm c t) a'
 refine ah.rQ 1 fun t5 bx=>?_;obtain⟨d0,d1,d2,Y⟩:=CI bx j u g;have Y:N t5=none:=Y;obtain⟨aE,a6,a7⟩:=O ids.ip (by simp [bT.all]);have aF:N ids.ip=some (.arr 1 (t.aH.l.map aB)):=aD.has (ids.ip,_) (by simp);have aG:t5≠ids.ip:=fun e=>by rw [<- e,Y] at aF; cases aF
 refine ah.jR (h':=dH (N.set t5 (some (.arr 1 []))) c0 c1 tk y.2.2 (aC t (bP 1 ids.ip t.aH.nl t.aH.l.length) (Sl.d 5 eD none ⟨kz.isEmpty,kz⟩) (bP 2 C M.nl M.l.length) (bP 10 t3 y.1.nl y.1.l.length)) kz.length) (xG d0 d1 d2) ?_;refine Y5 ?_;refine aN.s0 (eM (TK rfl) rfl rfl (iU g) rfl) rfl ?_;refine Y1 ?_;refine aN.s0 (Pu rfl) rfl ?_
 refine aN.sH (bS rfl rfl (Xi (s:=t.aH) (id:=ids.ip) (t:=t5) (p:=fun x=>ga y.2.2 x) (by rw [oq aE a6 a7,af.aO _ _ (fun e=>aG e.symm)]; exact aF) (by rw [oq d0 d1 d2]; exact af.aS _ _ _) aG (fun x av aw=>zU (a0:=y.2.2) (a1:=x) rfl av (by rw [aw c0 (fun e=>aE e.symm)]; exact pV j u)))) rfl ?_
 refine aN.fP (h':=dH ((N.set ids.ip none).set t5 (some (.arr 1 ((t.aH.l.filter fun x=>!ga y.2.2 x).map aB)))) c0 c1 tk y.2.2 (aC t (bP 1 ids.ip t.aH.nl t.aH.l.length) (Sl.d 5 eD none ⟨kz.isEmpty,kz⟩) (bP 2 C M.nl M.l.length) (bP 10 t3 y.1.nl y.1.l.length)) kz.length) (F3 aG aE a6 a7 d0 d1 d2) ?_;refine Y2 ?_
 refine aN.dG (gv (TK rfl) rfl rfl (iU g) rfl (by repeat (first|exact bn.zero|apply bn.succ))) rfl rfl ?_
 refine aN.fP (h':=dH ((N.set ids.ip none).set t5 (some (.arr 1 ((t.aH.l.filter fun x=>!ga y.2.2 x).map aB)))) c0 c1 tk y.2.2 (aC t (bP 1 t5 t.aH.nl (t.aH.l.filter fun x=>!ga y.2.2 x).length) (Sl.d 5 eD none ⟨kz.isEmpty,kz⟩) (bP 2 C M.nl M.l.length) (bP 10 t3 y.1.nl y.1.l.length)) kz.length) (CH g) ?_;refine Y1 ?_
 have aI:=aD.step (A:=[]) Y (CK d0 d1 d2) (o':=.arr 1 ((t.aH.l.filter fun x=>!ga y.2.2 x).map aB));generalize (N.set ids.ip none).set t5 (some (.arr 1 ((t.aH.l.filter fun x=>!ga y.2.2 x).map aB)))=P at aI ⊢;generalize bz:(t.aH.l.filter fun x=>!ga y.2.2 x)=E at aI am ⊢
 have bV:E.length<=1000000:=by rw [<- bz]; exact Nat.le_trans (List.length_filter_le _ _) ba
 refine Y5 ?_;refine aN.s0 (eM (TK rfl) rfl rfl (pV j u) rfl) rfl ?_;refine Y2 ?_;refine dZ 101 ?_;refine qe 102 rfl (fun hC=>iD (TK rfl) rfl rfl (TK rfl) rfl rfl) ?_;refine qe 103 rfl (fun hC=>eM (TK rfl) rfl rfl (iU g) rfl) ?_;refine qe 104 rfl (fun hC=>rS (k:=2) (id:=C) (nl:=M.nl) (m:=M.l.length) (TK rfl) rfl rfl rfl) ?_;refine Y1 ?_;refine dZ 106 ?_
 refine qe 107 rfl (fun hC=>iD (TK rfl) rfl rfl (TK rfl) rfl rfl) ?_;refine qe 108 rfl (fun hC=>eM (TK rfl) rfl rfl (iU g) rfl) ?_;refine qe 109 rfl (fun hC=>rS (k:=1) (id:=t5) (nl:=t.aH.nl) (m:=E.length) (TK rfl) rfl rfl rfl) ?_;refine jF 105 110 rfl rfl (fun hC=>p6 rfl rfl (by omega) (by omega)) ?_;refine Y1 ?_;refine AU 111 112 rfl rfl BI ?_;refine Y3 ?_
 refine aN.dG (gv (TK rfl) rfl rfl (pV j u) rfl (by repeat (first|exact bn.zero|apply bn.succ))) rfl rfl ?_;have bA:jL c t=(y.2.2.gH||decide (((M.l.length:Nat):Int)+((E.length:Nat):Int)<((t.au.l.length:Nat):Int)+((t.aH.l.length:Nat):Int))):=by
  unfold jL;rw [J,<- K,am]
 have bB:y.2.2.Fd=c.Fd:=by rw [ai]
 refine aN.fP (h':=dH P c0 c1 tk ⟨c.Fd,jL c t⟩ (aC t (bP 1 t5 t.aH.nl E.length) (Sl.d 5 eD none ⟨kz.isEmpty,kz⟩) (bP 2 C M.nl M.l.length) (bP 10 t3 y.1.nl y.1.l.length)) kz.length) (by rw [bA,<- bB]; exact F2 (C':=⟨y.2.2.Fd,y.2.2.gH||decide (((M.l.length:Nat):Int)+((E.length:Nat):Int)<((t.au.l.length:Nat):Int)+((t.aH.l.length:Nat):Int))⟩) j u) ?_
 refine Y1 ?_;have fin:xJ H (dH P c0 c1 tk ⟨c.Fd,jL c t⟩ (aC t (bP 1 t5 t.aH.nl E.length) (Sl.d 5 eD none ⟨kz.isEmpty,kz⟩) (bP 2 C M.nl M.l.length) (bP 10 t3 y.1.nl y.1.l.length)) kz.length) c0 c1 ids ⟨c.Fd,jL c t⟩ (mW c t):=by
  have bC:mW c t=ag.mk t.ak t.aa ⟨t.aH.nl,E⟩ t.aM ⟨kz.isEmpty,kz.map (·.1)⟩ M y.1:=by
   unfold mW;rw [am,aX,<- K,J];simp
  rw [bC];have bE:aC t (bP 1 t5 t.aH.nl E.length) (Sl.d 5 eD none ⟨kz.isEmpty,kz⟩) (bP 2 C M.nl M.l.length) (bP 10 t3 y.1.nl y.1.l.length)=cU.c (fB (ag.mk t.ak t.aa ⟨t.aH.nl,E⟩ t.aM ⟨kz.isEmpty,kz.map (·.1)⟩ M y.1) ⟨t5,C,t3,kz.map (·.2)⟩):=by
   unfold aC fB;simp only [CJ]
  rw [bE];exact xJ.of (nl:=kz.isEmpty) rfl j u g bt aI
 refine aR (tl [1,9]) (fun(z:Unit)=>[]) (fun z=>dH P c0 c1 tk ⟨c.Fd,jL c t⟩ (aC t (bP 1 t5 t.aH.nl E.length) (Sl.d 5 eD none ⟨kz.isEmpty,kz⟩) (bP 2 C M.nl M.l.length) (bP 10 t3 y.1.nl y.1.l.length)) kz.length) (fun z=>ou c t=((!y.2.1)&&decide ((0:Int)<((y.1.l.length:Nat):Int)))) ?_ ?_
 ·intro bW bF;refine Y4 ?_;refine s0 (eM (TK rfl) rfl rfl (iU g) rfl) rfl ?_;refine Y2 ?_
  refine aR (tl [1,9,120]) (fun(z:Bool)=>[(121,.a (.d (.bool z)))]) (fun z=>dH P c0 c1 tk ⟨c.Fd,jL c t⟩ (aC t (bP 1 t5 t.aH.nl E.length) (Sl.d 5 eD none ⟨kz.isEmpty,kz⟩) (bP 2 C M.nl M.l.length) (bP 10 t3 y.1.nl y.1.l.length)) kz.length) (fun z=>z=bif decide (t.ak=(1:Int)) then decide (t.ak=(1:Int)) else decide (t.ak=(2:Int))) ?_ ?_
  ·intro bY a8;refine Y4 ?_;refine ah.cond rfl (fun w=>?_) (fun w=>?_)
   ·refine ah.skip ?_;exact a8 _ (decide (t.ak=(1:Int))) wA (by rw [w]; rfl)
   refine Y4 ?_;exact a8 _ (decide (t.ak=(2:Int))) wA (by rw [w]; rfl)
  rintro s1 aK;refine ah.cond rfl (fun Z=>?_) (fun Z=>?_)
  ·have Q:ou c t=decide ((0:Int)<((kz.length:Nat):Int)):=by unfold ou; rw [<- aK,Z,aX]; simp
   refine Y4 ?_;refine s0 (eM (TK rfl) rfl rfl (iU g) rfl) rfl ?_;refine sLen (f:=eD) (s:=⟨kz.isEmpty,kz⟩) (TK rfl) rfl rfl rfl rfl fun bZ=>?_;refine Y3 ?_;refine ry ?_;rw [Q];exact bH.b9 _ rfl ⟨rfl,fin⟩ (fun _ _ h=>h)
  refine aR (tl [1,9]) (fun(z:Bool)=>[(130,.a (.d (.bool z)))]) (fun z=>dH P c0 c1 tk ⟨c.Fd,jL c t⟩ (aC t (bP 1 t5 t.aH.nl E.length) (Sl.d 5 eD none ⟨kz.isEmpty,kz⟩) (bP 2 C M.nl M.l.length) (bP 10 t3 y.1.nl y.1.l.length)) kz.length) (fun z=>z=bif decide (t.ak=(3:Int)) then decide (t.ak=(3:Int)) else decide (t.ak=(4:Int))) ?_ ?_
  ·intro b0 a9;refine Y4 ?_;refine ah.cond rfl (fun w=>?_) (fun w=>?_)
   ·refine ah.skip ?_;exact a9 _ (decide (t.ak=(3:Int))) wA (by rw [w]; rfl)
   refine Y4 ?_;exact a9 _ (decide (t.ak=(4:Int))) wA (by rw [w]; rfl)
  rintro b1 a_;refine ah.cond rfl (fun aL=>?_) (fun aL=>?_)
  ·have Q:ou c t=decide ((0:Int)<((M.l.length:Nat):Int)):=by unfold ou; rw [<- aK,Z,<- a_,aL,<- K]; rfl
   refine Y4 ?_;refine s0 (eM (TK rfl) rfl rfl (iU g) rfl) rfl ?_;refine s0 (rS (k:=2) (id:=C) (nl:=M.nl) (m:=M.l.length) (TK rfl) rfl rfl rfl) rfl ?_;refine Y3 ?_;refine ry ?_;rw [Q];exact bH.b9 _ rfl ⟨rfl,fin⟩ (fun _ _ h=>h)
  refine ah.skip ?_;exact bF _ () wA (by unfold ou; rw [<- aK,Z,<- a_,aL,J]; rfl)
 rintro _ Q;refine Y5 ?_;refine Gk 142 ?_;refine bG 143 rfl (fun hC=>iD (TK rfl) rfl rfl (TK rfl) rfl rfl) ?_;refine bG 144 rfl (fun hC=>eM (TK rfl) rfl rfl (iU g) rfl) ?_;refine bG 145 rfl (fun hC=>rS (k:=10) (id:=t3) (nl:=y.1.nl) (m:=y.1.l.length) (TK rfl) rfl rfl rfl) ?_;refine Gk 146 ?_;refine Y3 ?_;refine ry ?_;rw [Q];exact bH.b9 _ rfl ⟨rfl,fin⟩ (fun _ _ h=>h)
theorem gX.ne {B:af}{t:ag}{i:bT}(h:gX B t i):∀x∈i.all,B x≠none:=fun x hx=>by
 simp only [bT.all,List.mem_cons] at hx;rcases hx with rfl|rfl|rfl|hx
 ·rw [h.ip]; simp
 ·rw [h.im]; simp
 ·rw [h.ii]; simp
 obtain⟨q,hq⟩:=List.mem_iff_getElem?.1 hx;have b:q<t.an.l.length:=by have:=(List.getElem?_eq_some_iff.1 hq).1; rw [h.len] at this; exact this
 rw [h.fs (t.an.l[q],x) (List.mem_iff_getElem?.2 ⟨q,List.getElem?_zip_eq_some.2 ⟨List.getElem?_eq_getElem b,hq⟩⟩)]; simp
theorem gX.congr {B b:af}{t:ag}{i:bT}(h:gX B t i) (e:∀x∈i.all,b x=B x):gX b t i :=
 ⟨h.len,(e _ (by simp [bT.all])).trans h.ip,(e _ (by simp [bT.all])).trans h.im,(e _ (by simp [bT.all])).trans h.ii,fun p f=>(e _ (by
  obtain⟨q,hq⟩:=List.mem_iff_getElem?.1 f;have:=List.mem_of_getElem? (List.getElem?_zip_eq_some.1 hq).2;simp [bT.all,this])).trans (h.fs p f)⟩
noncomputable def iz (d:iT):List ag->Bool->List ag×Bool
 | [],ch=>([],ch)
 | t::l,ch=>bif ou ⟨d,ch⟩ t then(mW ⟨d,ch⟩ t::(iz d l (jL ⟨d,ch⟩ t)).1,(iz d l (jL ⟨d,ch⟩ t)).2) else iz d l true
noncomputable def eR (s:Sl (ag×bT)):iT:=⟨⟨s.nl,s.l.map fun p=>fB p.1 p.2⟩⟩
structure gq (H:af) (d:iT) (L:List (ag×bT)) (c0 tk:Nat) (kz:List (ag×bT)) (i:Nat) (ch:Bool) (B:af):Prop where
 le:i<=L.length
 kl:kz.length<=i
 zV:(kz.map (·.1)++(iz d ((L.drop i).map (·.1)) ch).1,(iz d ((L.drop i).map (·.1)) ch).2)=iz d (L.map (·.1)) false
 bX:B c0=some (.cells (cR.c ⟨d,ch⟩))
 bt:B tk=some (.tok 7 kz.length)
 own:∀p∈kz++L.drop i,gX B p.1 p.2
 nd:(c0::tk::(kz++L.drop i).flatMap (·.2.all)).Nodup
 new:∀p∈kz,∀x∈p.2.all,x∈L.flatMap (·.2.all)\/H x=none
 fp:∀x,x≠c0->x∉L.flatMap (·.2.all)->H x≠none->B x=H x
 F4:H tk=none
theorem gq.next {H:af}{d:iT}{L:List (ag×bT)}{c0 c1 tk:Nat}{kz:List (ag×bT)}{i:Nat}{ch r:Bool}{B h':af}{o:Ab.Obj}{t t':ag}{ids:bT}(h:gq H d L c0 tk kz i ch B) (hx:L[i]?=some (t,ids)) (l:B c1=none)
  (Z:xJ (B.set c1 (some o)) h' c0 c1 ids ⟨d,r⟩ t') :
  (iz d ((L.drop i).map (·.1)) ch=(t'::(iz d ((L.drop (i+1)).map (·.1)) r).1,(iz d ((L.drop (i+1)).map (·.1)) r).2) ->
   ∃iW,h' c1=some (.cells (cU.c (fB t' iW)))/\h' tk=some (.tok 7 kz.length)/\gq H d L c0 tk (kz++[(t',iW)]) (i+1) r (h'.set tk (some (.tok 7 (kz++[(t',iW)]).length)))) /\
  (iz d ((L.drop i).map (·.1)) ch=iz d ((L.drop (i+1)).map (·.1)) true->h' c0=some (.cells (cR.c ⟨d,r⟩))/\gq H d L c0 tk kz (i+1) true (h'.set c0 (some (.cells (cR.c ⟨d,true⟩))))):=by
 obtain⟨⟨iW,g0,g1,g2,g3,g4⟩,aa⟩:=Z;have G:i<L.length:=(List.getElem?_eq_some_iff.1 hx).1;have I:L.drop i=(t,ids)::L.drop (i+1):=by rw [List.drop_eq_getElem_cons G]; congr 1; exact(List.getElem?_eq_some_iff.1 hx).2
 have ab:=h.nd;obtain⟨m0,ad⟩:=List.nodup_cons.1 ab;obtain⟨m1,N⟩:=List.nodup_cons.1 ad;rw [I,List.flatMap_append,List.flatMap_cons] at N m1 m0;obtain⟨ae,ai,O⟩:=List.nodup_append.1 N;obtain⟨n4,P,Q⟩:=List.nodup_append.1 ai;dsimp only at n4 P Q;have ao:c1≠c0:=fun e=>by rw [e,h.bX] at l; cases l
 have aj:c1≠tk:=fun e=>by rw [e,h.bt] at l; cases l
 have s:c0≠tk:=fun e=>m0 (e▸.head _);have hSub:∀x∈ids.all,x∈L.flatMap (·.2.all):=fun x f=>List.mem_flatMap.2 ⟨(t,ids),List.mem_of_getElem? hx,f⟩
 -- a definition that is not this one
 have J:∀x,B x≠none->x≠c0->x∉ids.all->h' x=B x:=fun x g h0 hm=>by
  have h1:x≠c1:=fun e=>g (e▸l);have j:(B.set c1 (some o)) x=B x:=af.aO _ _ h1;rw [aa x h0 h1 hm (by rw [j]; exact g),j]
 have R:h' tk=some (.tok 7 kz.length):=by
  rw [J tk (by rw [h.bt]; simp) (fun e=>s e.symm) (fun hm=>m1 (by simp [hm])),h.bt]
 have u:∀q,q∈kz\/q∈L.drop (i+1)->∀x∈q.2.all,h' x=B x/\B x≠none/\x≠c0/\x≠tk/\x∉ids.all:=fun q hq x f=>by
  have ak:gX B q.1 q.2:=h.own q (by rw [I]; rcases hq with hq|hq<;>simp [hq]);have g:=ak.ne x f;have K:x∈kz.flatMap (·.2.all)\/x∈(L.drop (i+1)).flatMap (·.2.all):=by
   rcases hq with hq|hq
   ·exact .inl (List.mem_flatMap.2 ⟨q,hq,f⟩)
   exact .inr (List.mem_flatMap.2 ⟨q,hq,f⟩)
  have v:x≠c0:=fun e=>m0 (by rw [<- e]; rcases K with hm|hm<;>simp only [List.mem_cons,List.mem_append]<;>simp [hm]);have k:x≠tk:=fun e=>m1 (by rw [<- e]; rcases K with hm|hm<;>simp only [List.mem_append]<;>simp [hm]);have C:x∉ids.all:=fun hm=>by
   rcases K with h1|h1
   ·exact O x h1 x (List.mem_append.2 (.inl hm)) rfl
   exact Q x hm x h1 rfl
  exact⟨J x g v C,g,v,k,C⟩
 have S:∀q,q∈kz\/q∈L.drop (i+1)->gX h' q.1 q.2:=fun q hq =>
  (h.own q (by rw [I]; rcases hq with hq|hq<;>simp [hq])).congr fun x f=>(u q hq x f).1
 have U:∀x,x≠c0->x∉L.flatMap (·.2.all)->H x≠none->h' x=H x:=fun x h0 h1 j=>by
  have hB:=h.fp x h0 h1 j;rw [J x (by rw [hB]; exact j) h0 (fun hm=>h1 (hSub x hm)),hB]
 have W:(kz.flatMap (·.2.all)++(L.drop (i+1)).flatMap (·.2.all)).Nodup:=List.nodup_append.2 ⟨ae,P,fun a p b g=>O a p b (List.mem_append.2 (.inr g))⟩;have E:=h.zV;constructor
 ·intro e;rw [e] at E;have w:∀x∈iW.all,x≠c0/\x≠tk/\(x∈L.flatMap (·.2.all)\/H x=none)/\∀q,q∈kz\/q∈L.drop (i+1)->x∉q.2.all:=fun x f=>by
   have v:x≠c0:=fun e=>(List.nodup_cons.1 g3).1 (e▸.tail _ f);have k:x≠tk:=fun e=>by
    rcases g4 x f with hm|hm
    ·exact m1 (by rw [<- e]; simp [hm])
    rw [e,af.aO _ _ (fun e=>aj e.symm),h.bt] at hm; cases hm
   refine⟨v,k, ?_,fun q hq hm=>?_⟩
   ·rcases g4 x f with hm|hm
    ·exact .inl (hSub x hm)
    by_cases c:x∈L.flatMap (·.2.all)
    ·exact .inl c
    refine .inr ?_;cases M:H x with
    | none=>rfl
    | some z =>
     have hB:=h.fp x v c (by rw [M]; simp);by_cases c2:x=c1
     ·rw [c2,l] at hB; rw [<- c2,M] at hB; cases hB
     rw [af.aO _ _ c2,hB,M] at hm; cases hm
   obtain⟨_,g,_,_,C⟩:=u q hq x hm;rcases g4 x f with h1|h1
   ·exact C h1
   by_cases c2:x=c1
   ·exact g (c2▸l)
   rw [af.aO _ _ c2] at h1; exact g h1
  refine⟨iW,g1,R,G,by rw [List.length_append]; exact Nat.succ_le_succ h.kl,by simpa using E,by rw [af.aO _ _ s]; exact g0,af.aS _ _ _,fun q hq=>?_, ?_,fun q hq x f=>?_,fun x h0 h1 j=>?_,h.F4⟩
  ·have F:q=(t',iW)\/q∈kz\/q∈L.drop (i+1):=by
    rcases List.mem_append.1 hq with hq|hq
    ·rcases List.mem_append.1 hq with hq|hq
     ·exact .inr (.inl hq)
     exact .inl (List.mem_singleton.1 hq)
    exact .inr (.inr hq)
   rcases F with rfl|F
   ·exact g2.congr fun x f=>af.aO _ _ (w x f).2.1
   exact(S q F).congr fun x f=>af.aO _ _ (u q F x f).2.2.2.1
  ·rw [List.append_assoc,List.flatMap_append,List.singleton_append,List.flatMap_cons];have al:=(List.nodup_cons.1 (List.nodup_cons.1 g3).2).2;have X:∀x,x∈kz.flatMap (·.2.all)\/x∈(L.drop (i+1)).flatMap (·.2.all)->∃q,(q∈kz\/q∈L.drop (i+1))/\x∈q.2.all:=fun x hm=>by
    rcases hm with hm|hm
    ·obtain⟨q,hq,m⟩:=List.mem_flatMap.1 hm; exact⟨q,.inl hq,m⟩
    obtain⟨q,hq,m⟩:=List.mem_flatMap.1 hm; exact⟨q,.inr hq,m⟩
   have rq:∀x∈iW.all,∀y,y∈kz.flatMap (·.2.all)\/y∈(L.drop (i+1)).flatMap (·.2.all)->y≠x:=fun x f y am e=>by
    obtain⟨q,hq,m⟩:=X y am;exact(w x f).2.2.2 q hq (e▸m)
   have out:∀x,x∈kz.flatMap (·.2.all)\/x∈(L.drop (i+1)).flatMap (·.2.all)->x≠c0/\x≠tk:=fun x hm=>by
    obtain⟨q,hq,m⟩:=X x hm;obtain⟨_,_,a,b,_⟩:=u q hq x m;exact⟨a,b⟩
   have Y:∀x,x∈kz.flatMap (·.2.all)++(iW.all++(L.drop (i+1)).flatMap (·.2.all))->x≠c0/\x≠tk:=fun x hm=>by
    rcases List.mem_append.1 hm with hm|hm
    ·exact out x (.inl hm)
    rcases List.mem_append.1 hm with hm|hm
    ·exact⟨(w x hm).1,(w x hm).2.1⟩
    exact out x (.inr hm)
   refine List.nodup_cons.2 ⟨fun hm=>?_,List.nodup_cons.2 ⟨fun hm=>(Y tk hm).2 rfl, ?_⟩⟩
   ·rcases List.mem_cons.1 hm with e|hm
    ·exact s e
    exact(Y c0 hm).1 rfl
   obtain⟨o1,o2,an⟩:=List.nodup_append.1 W;refine List.nodup_append.2 ⟨o1,List.nodup_append.2 ⟨al,o2,fun a p b g=>(rq a p b (.inr g)).symm⟩,fun a p b g=>?_⟩;rcases List.mem_append.1 g with g|g
   ·exact rq b g a (.inl p)
   exact an a p b g
  ·rcases List.mem_append.1 hq with hq|hq
   ·exact h.new q hq x f
   rw [List.mem_singleton.1 hq] at f; exact(w x f).2.2.1
  have k:x≠tk\/x=tk:=(Nat.decEq x tk).casesOn (fun h=>.inl h) (fun h=>.inr h);rcases k with k|k
  ·rw [af.aO _ _ k]; exact U x h0 h1 j
  exact absurd (k▸h.F4) j
 intro e;rw [e] at E;refine⟨g0,G,Nat.le_succ_of_le h.kl,E,af.aS _ _ _,by rw [af.aO _ _ (fun e=>s e.symm)]; exact R,fun q hq=>?_, ?_,h.new,fun x h0 h1 j=>by rw [af.aO _ _ h0]; exact U x h0 h1 j,h.F4⟩
 ·exact(S q (List.mem_append.1 hq)).congr fun x f=>af.aO _ _ (u q (List.mem_append.1 hq) x f).2.2.1
 rw [List.flatMap_append];refine List.nodup_cons.2 ⟨fun hm=>m0 ?_,List.nodup_cons.2 ⟨fun hm=>m1 ?_,W⟩⟩
 ·rcases List.mem_cons.1 hm with e|hm
  ·exact absurd e s
  rcases List.mem_append.1 hm with hm|hm<;>simp only [List.mem_cons,List.mem_append]<;>simp [hm]
 rcases List.mem_append.1 hm with hm|hm<;>simp only [List.mem_append]<;>simp [hm]
theorem gq.start {H:af}{d:iT}{L:List (ag×bT)}{c0 tk:Nat}{ch:Bool}(hc:H c0=some (.cells (cR.c ⟨d,ch⟩))) (ht:H tk=none) (g:∀p∈L,gX H p.1 p.2) (hn:(c0::L.flatMap (·.2.all)).Nodup) :
  gq H d L c0 tk [] 0 false ((H.set c0 (some (.cells (cR.c ⟨d,false⟩)))).set tk (some (.tok 7 0))):=by
 have j:c0≠tk:=fun e=>by rw [e,ht] at hc; cases hc
 have mem:∀p∈L,∀x∈p.2.all,x≠c0/\x≠tk:=fun p b x hx=>⟨fun e=>(List.nodup_cons.1 hn).1 (e▸List.mem_flatMap.2 ⟨p,b,hx⟩),fun e=>(g p b).ne x hx (e▸ht)⟩;obtain⟨m0,k⟩:=List.nodup_cons.1 hn;refine⟨Nat.zero_le _,Nat.zero_le _,by simp,by rw [af.aO _ _ j,af.aS],af.aS _ _ _,fun p b=>?_, ?_,fun p b=>(by cases b),fun x h0 h1 l=>?_,ht⟩
 ·have f:p∈L:=by simpa using b
  exact(g p f).congr fun x hx=>by rw [af.aO _ _ (mem p f x hx).2,af.aO _ _ (mem p f x hx).1]
 ·simp only [List.nil_append,List.drop_zero];refine List.nodup_cons.2 ⟨fun hm=>?_,List.nodup_cons.2 ⟨fun hm=>?_,k⟩⟩
  ·rcases List.mem_cons.1 hm with e|hm
   ·exact j e
   exact m0 hm
  obtain⟨p,b,hx⟩:=List.mem_flatMap.1 hm;exact(mem p b tk hx).2 rfl
 have hk:x≠tk:=fun e=>l (e▸ht);rw [af.aO _ _ hk,af.aO _ _ h0]
/-- What a round leaves. -/
structure F5 (H h':af) (c0:Nat) (L:List (ag×bT)) (d:iT):Prop where
 out:∃L':List (ag×bT),h' c0=some (.cells (cR.c ⟨eR ⟨L'.isEmpty,L'⟩,(iz d (L.map (·.1)) false).2⟩))/\L'.map (·.1)=(iz d (L.map (·.1)) false).1/\(∀p∈L',gX h' p.1 p.2)/\(c0::L'.flatMap (·.2.all)).Nodup/\(∀p∈L',∀x∈p.2.all,x∈L.flatMap (·.2.all)\/H x=none)
 fp:∀x,x≠c0->x∉L.flatMap (·.2.all)->H x≠none->h' x=H x
theorem gq.fin {H:af}{d:iT}{L:List (ag×bT)}{c0 tk:Nat}{kz:List (ag×bT)}{ch:Bool}{B:af}(h:gq H d L c0 tk kz L.length ch B) :
  F5 H (B.set c0 (some (.cells (cR.c ⟨eR ⟨kz.isEmpty,kz⟩,ch⟩)))) c0 L d:=by
 have hm:=h.zV;rw [List.drop_length] at hm;simp only [List.map_nil,iz,List.append_nil] at hm;have f:=h.nd;rw [List.drop_length,List.append_nil] at f;obtain⟨m0,g⟩:=List.nodup_cons.1 f;obtain⟨m1,j⟩:=List.nodup_cons.1 g;have out:∀p∈kz,∀x∈p.2.all,x≠c0:=fun p b x hx e=>m0 (e▸.tail _ (List.mem_flatMap.2 ⟨p,b,hx⟩));refine⟨⟨kz,by rw [<- hm,af.aS],by rw [<- hm],fun p b=>(h.own p (by simp [b])).congr fun x hx=>af.aO _ _ (out p b x hx),List.nodup_cons.2 ⟨fun hm=>m0 (.tail _ hm),j⟩,h.new⟩,fun x h0 h1 k=>by rw [af.aO _ _ h0]; exact h.fp x h0 h1 k⟩
theorem F6 {α β:Type}{z:Nat}{f:α->β}{kz:List α}{x:α}(h:(kz.length+1)*z<=cC/\kz.length+1<=cC):bf z (⟨kz.isEmpty,kz.map f⟩:Sl β) (⟨false,[f x]⟩:Sl β)=some ⟨(kz++[x]).isEmpty,(kz++[x]).map f⟩:=by
 unfold bf;rw [if_pos (by simpa using h)];simp
noncomputable def aP (p:ag×bT):cU:=fB p.1 p.2
theorem M5 {s:Sl (ag×bT)}{ch:Bool}{c0:Nat}{H:af}(I:∀p∈s.l,p.1.an.l.length<=1000000/\p.1.au.l.length<=1000000/\p.1.aH.l.length<=1000000) (al:s.l.length<=1000000) (bX:H c0=some (.cells (cR.c ⟨eR s,ch⟩)))
  (J:∀p∈s.l,gX H p.1 p.2) (hn:(c0::s.l.flatMap (·.2.all)).Nodup) :
  AC Tryz.prog 21 [.d (.ptr c0 0)] H fun v h'=>v=.cI []/\F5 H h' c0 s.l (eR s):=by
 refine AC.oW 33 [] Tryz.call21 Tryz.func21 ?_;refine ah.tok 7 fun tk bt=>?_;have E:c0≠tk:=fun e=>by rw [e,bt] at bX; cases bX
 have k:=gq.start bX bt J hn;refine Y4 ?_;refine dG (gv (TK rfl) rfl rfl (by rw [af.aO _ _ E]; exact bX) rfl (by repeat (first|exact bn.zero|apply bn.succ))) rfl rfl ?_;refine aJ.fP (h':=(H.set c0 (some (.cells (cR.c ⟨eR s,false⟩)))).set tk (some (.tok 7 0))) (set_comm (fun e=>E e.symm)) ?_
 generalize am:(H.set c0 (some (.cells (cR.c ⟨eR s,false⟩)))).set tk (some (.tok 7 0))=K at k ⊢;refine Y4 ?_;refine ah.fK 2 7 tk rfl k.bt ?_;refine aR (tl [0]) (fun(z:List (ag×bT)×Bool×af)=>[(2,.a (.d (Sl.d 7 cU.c (some tk) ⟨z.1.isEmpty,z.1.map aP⟩)))]) (fun z=>z.2.2) (fun z=>gq H (eR s) s.l c0 tk z.1 s.l.length z.2.1 z.2.2) ?_ ?_
 ·intro ao L;refine Y5 ?_;refine s0 (eM (TK rfl) rfl rfl k.bX rfl) rfl ?_;refine sLen (f:=cU.c) (s:=⟨s.nl,s.l.map aP⟩) (TK rfl) rfl rfl rfl rfl fun ap=>?_;refine Y3 ?_
  refine bD (tl [0,12,13]) (fun(z:List (ag×bT)×Nat×Bool×af)=>[(2,.a (.d (Sl.d 7 cU.c (some tk) ⟨z.1.isEmpty,z.1.map aP⟩))),(14,vi z.2.1)]) (fun z=>z.2.2.2) (fun z=>s.l.length-z.2.1) (fun z=>gq H (eR s) s.l c0 tk z.1 z.2.1 z.2.2.1 z.2.2.2) ([],0,false,K) k wA ?_;rintro ⟨kz,i,ch,B⟩ b av M;dsimp only at b;have aw:(s.l.map aP).length=s.l.length:=List.length_map _;refine Y3 ?_
  refine ar fun ax N=>?_;refine ah.cond rfl (fun hc=>?_) (fun hc=>?_)
  ·dsimp only at hc;have hi:i<s.l.length:=by have:=oD hc; omega
   obtain⟨⟨t,ids⟩,hx⟩:∃p,s.l[i]?=some p:=⟨_,List.getElem?_eq_getElem hi⟩;have O:(s.l.map aP)[i]?=some (fB t ids):=by rw [List.getElem?_map,hx]; rfl
   have q:s.l.drop i=(t,ids)::s.l.drop (i+1):=by rw [List.drop_eq_getElem_cons hi]; congr 1; exact(List.getElem?_eq_some_iff.1 hx).2
   obtain⟨P,Q,R⟩:=I (t,ids) (List.mem_of_getElem? hx);refine sk N (aR (tl [0,12,13,14]) (fun(z:List (ag×bT)×Bool×af)=>[(2,.a (.d (Sl.d 7 cU.c (some tk) ⟨z.1.isEmpty,z.1.map aP⟩)))]) (fun z=>z.2.2) (fun z=>gq H (eR s) s.l c0 tk z.1 (i+1) z.2.1 z.2.2) ?_ ?_)
   ·intro ay F;refine Y2 ?_;refine s0 (AH (f:=cU.c) (n:=i) (s:=⟨s.nl,s.l.map aP⟩) (TK rfl) rfl (TK rfl) rfl rfl rfl O) rfl ?_;refine Y1 ?_;refine sE (dx.As (TK rfl) rfl) rfl (fun _ _ _ ⟨c1,g,u,w,S⟩=>?_);subst u w S;have g:B c1=none:=g;refine dG (ue (TK rfl) rfl rfl (af.aS _ _ _) rfl (Nat.le_of_ble_eq_true rfl) rfl rfl) rfl rfl ?_
    refine aJ.fP (h':=B.set c1 (some (.cells (cU.c (fB t ids))))) (af.set_set _ _ _ _) ?_;refine Y1 ?_;have G:c0≠c1:=fun e=>by rw [<- e,b.bX] at g; cases g
    have y:gX B t ids:=b.own (t,ids) (by rw [q]; simp);have U:gX (B.set c1 (some (.cells (cU.c (fB t ids))))) t ids:=y.congr fun x hx=>af.aO _ _ fun e=>y.ne x hx (e▸g);have W:(c0::c1::ids.all).Nodup:=by
     have h1:=b.nd;rw [q,List.flatMap_append,List.flatMap_cons] at h1;obtain⟨m0,X⟩:=List.nodup_cons.1 h1;obtain⟨m1,Y⟩:=List.nodup_cons.1 X;have Z:=(List.nodup_append.1 (List.nodup_append.1 Y).2.1).1;refine List.nodup_cons.2 ⟨fun hm=>?_,List.nodup_cons.2 ⟨fun hm=>y.ne c1 hm g,Z⟩⟩;rcases List.mem_cons.1 hm with e|hm
     ·exact G e
     exact m0 (by simp [hm])
    refine Y2 ?_;refine sE (dx.call rfl rfl (Xn (c:=⟨eR s,ch⟩) (t:=t) (ids:=ids) (c0:=c0) (c1:=c1) P Q R (by rw [af.aO _ _ G]; exact b.bX) (af.aS _ _ _) U W)) rfl (fun v aV h' ⟨⟨u,aa⟩,w⟩=>?_);subst u w;obtain⟨hk,ab⟩:=b.next hx g aa
    have m:iz (eR s) ((s.l.drop i).map (·.1)) ch=bif ou ⟨eR s,ch⟩ t then(mW ⟨eR s,ch⟩ t::(iz (eR s) ((s.l.drop (i+1)).map (·.1)) (jL ⟨eR s,ch⟩ t)).1,(iz (eR s) ((s.l.drop (i+1)).map (·.1)) (jL ⟨eR s,ch⟩ t)).2)
      else iz (eR s) ((s.l.drop (i+1)).map (·.1)) true:=by rw [q]; rfl
    refine Y1 ?_;refine ah.cond rfl (fun C=>?_) (fun C=>?_)
    ·rw [C,cond_true] at m;obtain⟨iW,g1,ad,j⟩:=hk m;have az:=b.kl;refine Y2 ?_;refine s0 (eM (TK rfl) rfl rfl g1 rfl) rfl ?_;refine Y1 ?_;refine sH (iM (f:=cU.c) (s:=⟨kz.isEmpty,kz.map aP⟩) (r:=⟨false,[aP (mW ⟨eR s,ch⟩ t,iW)]⟩) (TK rfl) rfl (TK rfl) (TK rfl) ⟨_,rfl⟩ rfl rfl (by decide) rfl rfl rfl rfl ad (by simp) (F6 (z:=144) (by unfold cC; omega))) rfl ?_
     refine aJ.fP (h':=h'.set tk (some (.tok 7 (kz++[(mW ⟨eR s,ch⟩ t,iW)]).length))) (by rw [List.length_map]) ?_;refine Y2 ?_;exact F _ (kz++[(mW ⟨eR s,ch⟩ t,iW)],jL ⟨eR s,ch⟩ t,h'.set tk (some (.tok 7 (kz++[(mW ⟨eR s,ch⟩ t,iW)]).length))) wA j
    rw [C,cond_false] at m;obtain⟨g0,j⟩:=ab m;refine Y4 ?_;refine dG (gv (TK rfl) rfl rfl g0 rfl (by repeat (first|exact bn.zero|apply bn.succ))) rfl rfl ?_;refine Y1 ?_;exact F _ (kz,true,h'.set c0 (some (.cells (cR.c ⟨eR s,true⟩)))) wA j
   rintro ⟨ae,ai,aj⟩ j;dsimp only at j;refine Y1 ?_;refine s0 (p6 rfl rfl (by dsimp only; omega) (by dsimp only; omega)) rfl ?_;refine Y2 ?_;exact M _ (ae,i+1,ai,aj) wA j (by show s.l.length-(i+1)<s.l.length-i; omega)
  dsimp only at hc;have ak:i=s.l.length:=by have h1:=b.le; have:=of_decide_eq_false hc; omega
  refine ah.exit ?_;exact L _ (kz,ch,B) wA (ak▸b)
 rintro ⟨kz,ch,B⟩ b;dsimp only at b;refine Y3 ?_;refine aJ.dV 29 rfl ?_;refine Y3 ?_;refine dG (ue (TK rfl) rfl rfl b.bX rfl (Nat.le_of_ble_eq_true rfl) rfl rfl) rfl rfl ?_;refine aJ.fP (h':=B.set c0 (some (.cells (cR.c ⟨eR ⟨kz.isEmpty,kz⟩,ch⟩)))) rfl ?_;refine Y1 ?_;repeat (first|refine fW ?_|refine fV ?_|refine fU ?_)
 exact bH.gm _ (xs:=[]) rfl ⟨rfl,b.fin⟩ (fun _ _ h=>h)
/-- Objects laid over a heap. -/
def lS (H:af) (l:List (Nat×Ab.Obj)):af:=fun x=>match l.find? (fun p=>Nat.beq p.1 x) with|some p=>some p.2|none=>H x
theorem M6 {H:af}{l:List (Nat×Ab.Obj)}{x:Nat}(h:x∉l.map (·.1)):lS H l x=H x:=by
 unfold lS;have:l.find? (fun p=>Nat.beq p.1 x)=none:=List.find?_eq_none.2 fun p b e=>h (Nat.eq_of_beq_eq_true e▸List.mem_map_of_mem b);rw [this]
theorem zX {H:af}{l:List (Nat×Ab.Obj)}{p:Nat×Ab.Obj}(hn:(l.map (·.1)).Nodup) (b:p∈l):lS H l p.1=some p.2:=by
 unfold lS;induction l with
 | nil=>cases b
 | cons a r f =>
  rw [List.map_cons] at hn;obtain⟨g,j⟩:=List.nodup_cons.1 hn;rcases List.mem_cons.1 b with rfl|b
  ·simp
  have:Nat.beq a.1 p.1=false:=Bool.eq_false_iff.2 fun e=>g (Nat.eq_of_beq_eq_true e▸List.mem_map_of_mem b);rw [List.find?_cons,this]; exact f j b
structure ru (H:af) (t:ag) (i:bT):Prop where
 len:i.fs.length=t.an.l.length
 ip:H i.ip=some (.arr 1 [])
 im:H i.im=some (.arr 2 [])
 ii:H i.ii=some (.arr 10 [])
 fs:∀k∈i.fs,H k=some (.arr 10 [])
 nd:i.all.Nodup
noncomputable def ov (a0:Z2) (x3:Sl Bs) (f:Z6):Bool:=match (j8 f.aM).bind fun b=>wT (⟨false,[x3,b]⟩:Sl (Sl Bs)) with|some l=>mN a0 l|none=>false
noncomputable def vg (a0:Z2) (x3:Sl Bs) (l:List Z6) (ks:List Nat):List Nat:=((l.zip ks).filter fun p=>ov a0 x3 p.1).map (·.2)
noncomputable def kZ (a0:Z2) (a1:ag) (i:bT):bT:=match j8 a1.aM with|some x3=>⟨i.ip,i.im,i.ii,vg a0 x3 a1.an.l i.fs⟩|none=>i
def fC (t:ag) (P b F M f:D):List D:=[.int .i64 t.ak,.str t.aa,P,b,F,M,f]
structure iA (H:af) (t:ag) (ids:bT) (a0:Z2) (x3 x5:Sl Bs) (x7:Sl Z7) (tk:Nat) (kz:List (Z6×Nat)) (i:Nat) (B:af):Prop where
 le:i<=t.an.l.length
 kl:kz.length<=i
 vh:kz.map (·.2)=(((t.an.l.zip ids.fs).take i).filter fun p=>ov a0 x3 p.1).map (·.2)
 kh:∀p∈kz,B p.2=some (iV p.1)
 F7:B ids.ip=some (.arr 1 (x5.l.map aB))
 F8:B ids.ii=some (.arr 10 (x7.l.map Z7.c))
 bt:B tk=some (.tok 5 kz.length)
 fp:∀x,x≠tk->x≠ids.ip->x≠ids.ii->x∉kz.map (·.2)->B x=H x
section
variable {H:af}{t:ag}{ids:bT}{a0:Z2}{x3 x5:Sl Bs}{x7:Sl Z7}{tk:Nat}{kz:List (Z6×Nat)}{i:Nat}{B:af}{f f':Z6}{k:Nat}
theorem iA.start (b:ru H t ids) (bt:H tk=none):iA H t ids a0 x3 x5 x7 tk [] 0 (((H.set ids.ip (some (.arr 1 (x5.l.map aB)))).set ids.ii (some (.arr 10 (x7.l.map Z7.c)))).set tk (some (.tok 5 0))):=by
 have f:ids.ip≠tk:=fun e=>by rw [<- e,b.ip] at bt; cases bt
 have k2:ids.ii≠tk:=fun e=>by rw [<- e,b.ii] at bt; cases bt
 have g:ids.ip≠ids.ii:=fun e=>by have:=b.nd; rw [bT.all,e] at this; simp at this
 exact⟨Nat.zero_le _,Nat.zero_le _,by simp,fun p j=>(by cases j),by rw [af.aO _ _ f,af.aO _ _ g,af.aS],by rw [af.aO _ _ k2,af.aS],af.aS _ _ _,
  fun x h1 k m _=>by rw [af.aO _ _ h1,af.aO _ _ m,af.aO _ _ k]⟩
theorem iA.sub (h:iA H t ids a0 x3 x5 x7 tk kz i B) (j:ru H t ids) (hx:(t.an.l.zip ids.fs)[i]?=some (f,k)) (bt:H tk=none):k∉kz.map (·.2)/\k≠tk/\k≠ids.ip/\k≠ids.ii/\k≠ids.im/\B k=some (.arr 10 []):=by
 obtain⟨z,hk⟩:=zW hx;have b:k∈ids.fs:=List.mem_of_getElem? hk;have s:=j.nd;simp only [bT.all,List.nodup_cons,List.mem_cons,not_or] at s;obtain⟨⟨a1,a2,a3⟩,⟨C,u⟩,c1,c2⟩:=s;have h1:k∉kz.map (·.2):=by
  rw [h.vh];intro hm;obtain⟨p,v,e⟩:=List.mem_map.1 hm;have w:=(List.mem_filter.1 v).1;obtain⟨q,hq⟩:=List.mem_iff_getElem?.1 w;rw [List.getElem?_take] at hq
  split at hq
  ·rename_i bl
   have g:=(List.getElem?_zip_eq_some.1 hq).2;rw [e,<- hk] at g;have m:=(List.getElem?_eq_some_iff.1 hk).1;have r:=(List.getElem?_inj (by omega) c2).1 g;omega
  cases hq
 have g:k≠tk:=fun e=>by have:=j.fs k b; rw [e,bt] at this; cases this
 have r:k≠ids.ip:=fun e=>a3 (e▸b);have m:k≠ids.ii:=fun e=>c1 (e▸b);have y:k≠ids.im:=fun e=>u (e▸b);exact⟨h1,g,r,m,y,by rw [h.fp k g r m h1]; exact j.fs k b⟩
theorem iA.skip (h:iA H t ids a0 x3 x5 x7 tk kz i B) (hx:(t.an.l.zip ids.fs)[i]?=some (f,k)) (b:ov a0 x3 f=false):iA H t ids a0 x3 x5 x7 tk kz (i+1) B:=by
 obtain⟨hi,e⟩:=List.getElem?_eq_some_iff.1 hx;refine⟨(List.getElem?_eq_some_iff.1 (zW hx).1).1,Nat.le_succ_of_le h.kl, ?_,h.kh,h.F7,h.F8,h.bt,h.fp⟩;rw [List.take_succ_eq_append_getElem hi,List.filter_append,e];have:([(f,k)]:List (Z6×Nat)).filter (fun p=>ov a0 x3 p.1)=[]:=by simp [b]
 rw [this,List.append_nil]; exact h.vh
theorem iA.keep (h:iA H t ids a0 x3 x5 x7 tk kz i B) (g:ru H t ids) (hx:(t.an.l.zip ids.fs)[i]?=some (f,k)) (bt:H tk=none) (q:ov a0 x3 f=true) :
  iA H t ids a0 x3 x5 x7 tk (kz++[(f',k)]) (i+1) ((B.set k (some (iV f'))).set tk (some (.tok 5 (kz++[(f',k)]).length))):=by
 obtain⟨hi,e⟩:=List.getElem?_eq_some_iff.1 hx;obtain⟨r,s,k2,u,_,_⟩:=h.sub g hx bt;have t1:ids.ip≠tk:=fun e=>by rw [<- e,g.ip] at bt; cases bt
 have t2:ids.ii≠tk:=fun e=>by rw [<- e,g.ii] at bt; cases bt
 have m:∀p∈kz,p.2≠k/\p.2≠tk:=fun p b=>⟨fun e=>r (e▸List.mem_map_of_mem b),fun e=>by have:=h.kh p b; rw [e,h.bt] at this; cases this⟩;refine⟨(List.getElem?_eq_some_iff.1 (zW hx).1).1,by rw [List.length_append]; exact Nat.succ_le_succ h.kl, ?_,fun p b=>?_,by rw [af.aO _ _ t1,af.aO _ _ (fun e=>k2 e.symm)]; exact h.F7,by rw [af.aO _ _ t2,af.aO _ _ (fun e=>u e.symm)]; exact h.F8,af.aS _ _ _,fun x h1 v w j=>?_⟩
 ·rw [List.take_succ_eq_append_getElem hi,List.filter_append,e];have:([(f,k)]:List (Z6×Nat)).filter (fun p=>ov a0 x3 p.1)=[(f,k)]:=by simp [q]
  rw [this,List.map_append,List.map_append,<- h.vh]; rfl
 ·rcases List.mem_append.1 b with b|b
  ·rw [af.aO _ _ (m p b).2,af.aO _ _ (m p b).1]; exact h.kh p b
  rw [List.mem_singleton.1 b,af.aO _ _ s,af.aS]
 rw [List.map_append,List.mem_append,not_or] at j;rw [af.aO _ _ h1,af.aO _ _ (fun e=>j.2 (by simp [e]))];exact h.fp x h1 v w j.1
end
theorem Xo {j:J}{w:World}{h:af}{xs:List D}{cs:List Value}(i k id:Nat){nl:Bool}{n:Nat}{rows:List (List D)}(hh:fu j w h) (hi:h id=some (.arr k rows)) (hn:n=rows.length) (hx:aQ (aF j w) xs cs) (hc:xs[i]?=some (.arr k id nl n)) :
  aQ (aF j w) (xs.set i (bP k id nl n)) cs:=by
 refine aQ.jf (by rw [List.length_set,hx.length]) fun m x v hm hv=>?_;rw [List.getElem?_set] at hm
 split at hm
 ·rename_i e
  subst e
  split at hm
  ·obtain rfl:=oJ hm;obtain⟨p,f,hr⟩:=hx.get hc;rw [hv] at f; obtain rfl:=oJ f;cases n with
   | succ n=>exact hr
   | zero =>
    have hl:HL j w [] [] h:=⟨hh,⟨.nil,by simp,by simp⟩⟩;have h0:rows=[]:=by cases rows with|nil=>rfl|cons _ _=>cases hn
    show aF j w (.slice k none nl []) v;have q:bp j w [] (.a (.d (.arr k id nl rows.length))) v:=by rw [<- hn]; exact hr
    rcases hl.rP hi rfl q with ⟨base,g,l,_⟩|⟨b,r,s,ce,g,l,_⟩
    ·rw [g]; exact ur l fun _=>rfl
    subst h0; rw [g,l]; exact ur rfl fun h=>by cases h
  cases hm
 obtain⟨p,f,hr⟩:=hx.get hm;rw [hv] at f; obtain rfl:=oJ f; exact hr
theorem iA.im {H:af}{t:ag}{ids:bT}{a0:Z2}{x3 x5:Sl Bs}{x7:Sl Z7}{tk:Nat}{kz:List (Z6×Nat)}{i:Nat}{B:af}(h:iA H t ids a0 x3 x5 x7 tk kz i B) (b:ru H t ids) (bt:H tk=none):B ids.im=some (.arr 2 []):=by
 have f:=b.nd;simp only [bT.all,List.nodup_cons,List.mem_cons,not_or] at f;obtain⟨⟨a1,a2,a3⟩,⟨g,j⟩,c1,c2⟩:=f;rw [h.fp ids.im (fun e=>by have:=b.im; rw [e,bt] at this; cases this) (fun e=>a1 e.symm) g (fun hm=>?_)]
 ·exact b.im
 rw [h.vh] at hm;obtain⟨p,k,e⟩:=List.mem_map.1 hm;obtain⟨q,hq⟩:=List.mem_iff_getElem?.1 (List.mem_of_mem_take (List.mem_filter.1 k).1);exact j (e▸List.mem_of_getElem? (List.getElem?_zip_eq_some.1 hq).2)
theorem iA.fin {H:af}{t:ag}{ids:bT}{a0:Z2}{x3 x5:Sl Bs}{x7:Sl Z7}{tk:Nat}{kz:List (Z6×Nat)}{i:Nat}{B:af}(h:iA H t ids a0 x3 x5 x7 tk kz i B) (g:ru H t ids) (bt:H tk=none){K:Int}{N:Bs}{j:Sl aD}{nl:Bool}(M:Sl Z8) :
  ∀x o,lS H (fN (ag.mk K N x5 j ⟨nl,kz.map (·.1)⟩ M x7) ⟨ids.ip,ids.im,ids.ii,kz.map (·.2)⟩) x=some o->(B.set ids.im (some (.arr 2 (M.l.map Z8.c)))) x=some o:=by
 have k:=g.nd;simp only [bT.all,List.nodup_cons,List.mem_cons,not_or] at k;obtain⟨⟨a1,a2,a3⟩,⟨m,r⟩,c1,c2⟩:=k;have f:∀p∈kz,p.2∈ids.fs:=fun p b=>by
  have hm:p.2∈kz.map (·.2):=List.mem_map_of_mem b;rw [h.vh] at hm;obtain⟨q,hq,e⟩:=List.mem_map.1 hm;obtain⟨n,hn⟩:=List.mem_iff_getElem?.1 (List.mem_of_mem_take (List.mem_filter.1 hq).1);exact e▸List.mem_of_getElem? (List.getElem?_zip_eq_some.1 hn).2
 have s:(kz.map (·.2)).Nodup:=by
  rw [h.vh];refine List.Sublist.nodup (List.Sublist.map _ (List.filter_sublist.trans (List.take_sublist _ _))) ?_;rw [List.map_snd_zip (by rw [g.len]; exact Nat.le_refl _)]; exact c2
 have hz:(kz.map (·.1)).zip (kz.map (·.2))=kz:=CJ kz;have u:fN (ag.mk K N x5 j ⟨nl,kz.map (·.1)⟩ M x7) ⟨ids.ip,ids.im,ids.ii,kz.map (·.2)⟩=(ids.ip,.arr 1 (x5.l.map aB))::(ids.im,.arr 2 (M.l.map Z8.c))::(ids.ii,.arr 10 (x7.l.map Z7.c))::kz.map fun p=>(p.2,iV p.1):=by
  unfold fN; dsimp only; rw [hz]
 rw [u];have nd:(((ids.ip,Ab.Obj.arr 1 (x5.l.map aB))::(ids.im,.arr 2 (M.l.map Z8.c))::(ids.ii,.arr 10 (x7.l.map Z7.c))::kz.map fun p=>(p.2,iV p.1)).map (·.1)).Nodup:=by
  simp only [List.map_cons,List.map_map,List.nodup_cons,List.mem_cons,List.mem_map,not_or,Function.comp_apply];exact⟨⟨a1,a2,fun⟨q,hq,e⟩=>a3 (e▸f q hq)⟩,⟨m,fun⟨q,hq,e⟩=>r (e▸f q hq)⟩,fun⟨q,hq,e⟩=>c1 (e▸f q hq),s⟩
 intro x o hx;by_cases hm:x∈(((ids.ip,Ab.Obj.arr 1 (x5.l.map aB))::(ids.im,.arr 2 (M.l.map Z8.c))::(ids.ii,.arr 10 (x7.l.map Z7.c))::kz.map fun p=>(p.2,iV p.1)).map (·.1))
 ·obtain⟨p,b,rfl⟩:=List.mem_map.1 hm;rw [zX nd b] at hx;rw [<- hx];simp only [List.mem_cons,List.mem_map] at b;rcases b with rfl|rfl|rfl|⟨q,hq,rfl⟩
  ·rw [af.aO _ _ a1]; exact h.F7
  ·exact af.aS _ _ _
  ·rw [af.aO _ _ (fun e=>m e.symm)]; exact h.F8
  have v:q.2≠ids.im:=fun e=>r (by rw [<- e]; exact f q hq);rw [af.aO _ _ v]; exact h.kh q hq
 rw [M6 hm] at hx;simp only [List.map_cons,List.map_map,List.mem_cons,List.mem_map,not_or,Function.comp_apply] at hm;obtain⟨m1,m2,m3,m4⟩:=hm;rw [af.aO _ _ m2,h.fp x (fun e=>by rw [e,bt] at hx; cases hx) m1 m3 (fun hk=>by obtain⟨q,hq,e⟩:=List.mem_map.1 hk; exact m4 ⟨q,hq,e⟩)];exact hx
theorem Xp {a0 a1 ids r}(b:pJ a0 a1=some r){H:af}(u:ru H a1 ids) (hB:a1.an.l.length<=1000000):AC Tryz.prog 20 [.agg (Z2.c a0),.agg (ag.c a1)] H fun v h'=>v=.a (.agg (cU.c (fB r (kZ a0 a1 ids))))/\h'=lS H (fN r (kZ a0 a1 ids)):=by
 unfold pJ zA at b;refine AC.oW 97 [.cell 4 40] Tryz.call20 Tryz.func20 ?_;refine Y8 ?_;obtain⟨x3,O,b⟩:=qT rfl b;refine Sc rfl rfl (vc O) (Y2 ?_);have av:j8 a1.aM=some x3:=O;refine Y7 ?_;obtain⟨x5,aw,b⟩:=qT rfl b;have ay:ids.ip≠ids.ii:=fun e=>by have:=u.nd; rw [bT.all,e] at this; simp at this
 refine aN.sH (bS rfl rfl (AC.bP (V5 aw _ u.ip) (af.aS _ _ _) (List.length_map _).symm)) rfl ?_;refine Y2 ?_;obtain⟨g,az,b⟩:=qT rfl b;refine cH rfl rfl (tP az) (Y2 ?_);obtain⟨x7,aC,b⟩:=qT rfl b;refine aN.sH (bS rfl rfl (AC.bP (M1 aC _ (by rw [af.aO _ _ (fun e=>ay e.symm)]; exact u.ii)) (af.aS _ _ _) (List.length_map _).symm)) rfl ?_;refine Y4 ?_
 refine ah.tok 5 fun tk C=>?_;obtain⟨bl,C⟩:=af.dW C;obtain⟨bm,C⟩:=af.dW C;have bt:H tk=none:=C;refine ah.cq 1 _ rfl (fun j w cs hh hx=>tok_cell 4 5 5 hh (t:=tk) (af.aS _ _ _) hx rfl) ?_;have P:∀{B:af}{kz:List (Z6×Nat)}{i:Nat},iA H a1 ids a0 x3 x5 x7 tk kz i B->B ids.im=some (.arr 2 []):=fun h=>iA.im h u bt
 have E:=iA.start (a0:=a0) (x3:=x3) (x5:=x5) (x7:=x7) u bt;refine ah.cq 1 _ rfl (fun j w cs hh hx=>PF 5 2 2 hh (t:=ids.im) (P E) hx rfl) ?_;generalize ((H.set ids.ip (some (.arr 1 (x5.l.map aB)))).set ids.ii (some (.arr 10 (x7.l.map Z7.c)))).set tk (some (.tok 5 0))=aE at E ⊢;have bo:(a1.an.l.zip ids.fs).length=a1.an.l.length:=by rw [List.length_zip,u.len,Nat.min_self]
 refine cT (tl [2,3,4,5,6]) (fun(z:List (Z6×Nat)×af)=>[]) (fun z=>[ag.c ag.zero,fC a1 (bP 1 ids.ip x5.nl x5.l.length) (Sl.d 2 aD.c none g) (Sl.d 5 eD (some tk) ⟨z.1.isEmpty,z.1⟩) (.arr 2 ids.im true 0) (bP 10 ids.ii x7.nl x7.l.length)]) (fun z=>z.2) (fun z=>Option.bind (gE a0 a1 x3 a1.au.l (ag.mk a1.ak a1.aa x5 g ⟨z.1.isEmpty,z.1.map (·.1)⟩ (Sl.nil:Sl Z8) x7)) (fun y=>some y)=some r/\iA H a1 ids a0 x3 x5 x7 tk z.1 a1.an.l.length z.2) ?_ ?_
 ·intro bp aF;refine Y3 ?_;refine aT Z6.c a1.an fun bq=>Y3 ?_
  refine eZ (tl [2,3,4,5,6,29,30]) (fun(z:Nat×List (Z6×Nat)×af)=>[(31,vi z.1)]) (fun z=>[ag.c ag.zero,fC a1 (bP 1 ids.ip x5.nl x5.l.length) (Sl.d 2 aD.c none g) (Sl.d 5 eD (some tk) ⟨z.2.1.isEmpty,z.2.1⟩) (.arr 2 ids.im true 0) (bP 10 ids.ii x7.nl x7.l.length)]) (fun z=>z.2.2) (fun z=>a1.an.l.length-z.1) (fun z=>Option.bind (jv a0 x3 (a1.an.l.drop z.1) (ag.mk a1.ak a1.aa x5 g ⟨z.2.1.isEmpty,z.2.1.map (·.1)⟩ (Sl.nil:Sl Z8) x7)) (fun F=>on (F) fun G=>Option.bind (gE a0 a1 x3 a1.au.l G) fun I=>on (I) fun J=>some J)=some r/\iA H a1 ids a0 x3 x5 x7 tk z.2.1 z.1 z.2.2) (0,[],aE) ⟨b,E⟩ wA ?_
  rintro ⟨i,kz,B⟩ ⟨b,m⟩ br aG;dsimp only at b m;refine Y3 ?_;refine ar fun bs aH=>?_;refine ah.cond rfl (fun hc=>?_) (fun hc=>?_)
  ·dsimp only at hc;have hi:i<a1.an.l.length:=by have:=oD hc; omega
   obtain⟨⟨f,k⟩,hx⟩:∃p,(a1.an.l.zip ids.fs)[i]?=some p:=⟨_,List.getElem?_eq_getElem (by omega)⟩;have Q:=(zW hx).1;obtain⟨bu,aI,k2,bv,bw,aK⟩:=m.sub u hx bt;have aP:a1.an.l.drop i=f::a1.an.l.drop (i+1):=by rw [List.drop_eq_getElem_cons hi]; congr 1; exact(List.getElem?_eq_some_iff.1 Q).2
   rw [aP,jv] at b;refine sk aH ?_
   refine cT (tl [2,3,4,5,6,29,30,31]) (fun(z:List (Z6×Nat)×af)=>[]) (fun z=>[ag.c ag.zero,fC a1 (bP 1 ids.ip x5.nl x5.l.length) (Sl.d 2 aD.c none g) (Sl.d 5 eD (some tk) ⟨z.1.isEmpty,z.1⟩) (.arr 2 ids.im true 0) (bP 10 ids.ii x7.nl x7.l.length)]) (fun z=>z.2) (fun z=>Option.bind (jv a0 x3 (a1.an.l.drop (i+1)) (ag.mk a1.ak a1.aa x5 g ⟨z.1.isEmpty,z.1.map (·.1)⟩ (Sl.nil:Sl Z8) x7)) (fun F=>on (F) fun G=>Option.bind (gE a0 a1 x3 a1.au.l G) fun I=>on (I) fun J=>some J)=some r/\iA H a1 ids a0 x3 x5 x7 tk z.1 (i+1) z.2) ?_ ?_
   ·intro bz R;refine Y2 ?_;refine S (ix Z6.c i Q) (Y9 ?_);obtain⟨U,W,b⟩:=qO rfl b;refine cH rfl rfl (vc W) (Y1 ?_);obtain⟨aQ,X,b⟩:=qO rfl b;refine cH rfl rfl (Cz X) ?_;obtain⟨aR,Y,b⟩:=vO rfl b;refine cH rfl rfl (Cy Y) (Y1 ?_);have Z:ov a0 x3 f=aR:=by
     unfold ov;have K:j8 f.aM=some U:=W;have aU:wT (⟨false,[x3,U]⟩:Sl (Sl Bs))=some aQ:=X;rw [K,oB,aU];exact oJ Y
    obtain⟨bA,ab,b⟩:=cM b;refine cO b (fun L b=>?_) (fun L b=>?_)
    ·refine Y4 ?_;obtain⟨aV,aW,b⟩:=qO rfl b;refine Sc rfl rfl (zN aW) (Y7 ?_);obtain⟨aX,aY,b⟩:=qO rfl b;refine Sc rfl rfl (tP aY) (Y6 ?_);obtain⟨aZ,a2,b⟩:=qO rfl b;refine sH (bS rfl rfl (AC.bP (M1 a2 _ aK) (af.aS _ _ _) (List.length_map _).symm)) rfl ?_;refine Y8 ?_;obtain⟨bB,N,b⟩:=qO rfl b;have bC:=m.kl
     have ad:(kz.length+1)*104<=cC/\kz.length+1<=cC:=by unfold cC; omega
     generalize ae:Z6.mk f.aa aZ (aL.mk f.ax.aa aV) aX=f' at N;have ai:=F6 (z:=104) (f:=fun q:Z6×Nat=>q.1) (kz:=kz) (x:=(f',k)) ad;dsimp only at ai;rw [ai] at N;obtain rfl:=oJ N
     refine sH (iM (f:=eD) (s:=⟨kz.isEmpty,kz⟩) (r:=⟨false,[(f',k)]⟩) (TK rfl) rfl (TK rfl) (TK rfl) ⟨_,rfl⟩ rfl rfl (by decide) rfl (by subst ae; rfl) rfl rfl (by rw [af.aO _ _ (fun e=>aI e.symm)]; exact m.bt) rfl (M4 ad)) rfl ?_;refine aJ.fP (h':=(B.set k (some (iV f'))).set tk (some (.tok 5 (kz++[(f',k)]).length))) (by subst ae; rfl) ?_;refine Y3 ?_;have b:=ku ab b
     exact R _ (kz++[(f',k)],(B.set k (some (iV f'))).set tk (some (.tok 5 (kz++[(f',k)]).length))) wA ⟨b,m.keep u hx bt (Z.trans L)⟩
    refine ah.skip ?_;have b:=ku ab b;exact R _ (kz,B) wA ⟨b,m.skip hx (Z.trans L)⟩
   rintro ⟨a3,a4⟩ ⟨b,aj⟩;dsimp only at b aj;refine Y1 ?_;refine s0 (p6 rfl rfl (by dsimp only; omega) (by dsimp only; omega)) rfl ?_;refine Y2 ?_;exact aG _ (i+1,a3,a4) wA ⟨b,aj⟩ (by show a1.an.l.length-(i+1)<a1.an.l.length-i; omega)
  dsimp only at hc;have a5:i=a1.an.l.length:=by have h1:=m.le; have:=of_decide_eq_false hc; omega
  subst a5;rw [List.drop_length,jv] at b;refine ah.exit ?_;exact aF _ (kz,B) wA ⟨b,m⟩
 rintro ⟨kz,B⟩ ⟨b,m⟩;dsimp only at b m;have a6:=P m;have a7:B=B.set ids.im (some (.arr 2 ((Sl.nil:Sl Z8).l.map Z8.c))):=(af.kf B _ _ a6).symm;refine ah.jR (h':=B.set ids.im (some (.arr 2 ((Sl.nil:Sl Z8).l.map Z8.c)))) a7 ?_
 refine cT (tl [4,6]) (fun(z:Sl Z8)=>[]) (fun z=>[ag.c ag.zero,fC a1 (bP 1 ids.ip x5.nl x5.l.length) (Sl.d 2 aD.c none g) (Sl.d 5 eD (some tk) ⟨kz.isEmpty,kz⟩) (.arr 2 ids.im z.nl z.l.length) (bP 10 ids.ii x7.nl x7.l.length)]) (fun z=>B.set ids.im (some (.arr 2 (z.l.map Z8.c)))) (fun z=>ag.mk a1.ak a1.aa x5 g ⟨kz.isEmpty,kz.map (·.1)⟩ z x7=r) ?_ ?_
 ·intro bD a8;refine Y3 ?_;refine aT Z8.c a1.au fun bE=>Y3 ?_
  refine eZ (tl [2,3,4,5,6,65,66]) (fun(z:Nat×Sl Z8)=>[(67,vi z.1)]) (fun z=>[ag.c ag.zero,fC a1 (bP 1 ids.ip x5.nl x5.l.length) (Sl.d 2 aD.c none g) (Sl.d 5 eD (some tk) ⟨kz.isEmpty,kz⟩) (.arr 2 ids.im z.2.nl z.2.l.length) (bP 10 ids.ii x7.nl x7.l.length)]) (fun z=>B.set ids.im (some (.arr 2 (z.2.l.map Z8.c)))) (fun z=>a1.au.l.length-z.1) (fun z=>z.1<=a1.au.l.length/\Option.bind (gE a0 a1 x3 (a1.au.l.drop z.1) (ag.mk a1.ak a1.aa x5 g ⟨kz.isEmpty,kz.map (·.1)⟩ z.2 x7)) (fun y=>some y)=some r) (0,(Sl.nil:Sl Z8)) ⟨Nat.zero_le _,b⟩ wA ?_
  rintro ⟨i,M⟩ ⟨hle,b⟩ bF a9;dsimp only at hle b;refine Y3 ?_;refine ar fun bG a_=>?_;refine ah.bL (fun l=>Option.bind (gE a0 a1 x3 l (ag.mk a1.ak a1.aa x5 g ⟨kz.isEmpty,kz.map (·.1)⟩ M x7)) (fun y=>some y)=some r) b rfl (fun bI a' al b=>?_) (fun al b=>?_)
  ·rw [gE] at b;have ba:i<a1.au.l.length:=by have:=oD al; omega
   refine sk a_ ?_
   refine cT (tl [2,3,4,5,6,65,66,67]) (fun(z:Sl Z8)=>[]) (fun z=>[ag.c ag.zero,fC a1 (bP 1 ids.ip x5.nl x5.l.length) (Sl.d 2 aD.c none g) (Sl.d 5 eD (some tk) ⟨kz.isEmpty,kz⟩) (.arr 2 ids.im z.nl z.l.length) (bP 10 ids.ii x7.nl x7.l.length)]) (fun z=>B.set ids.im (some (.arr 2 (z.l.map Z8.c)))) (fun z=>Option.bind (gE a0 a1 x3 (a1.au.l.drop (i+1)) (ag.mk a1.ak a1.aa x5 g ⟨kz.isEmpty,kz.map (·.1)⟩ z x7)) (fun y=>some y)=some r) ?_ ?_
   ·intro bJ am;refine Y2 ?_;obtain⟨bK,bb,b⟩:=vO a' b;refine S (ix Z8.c i bb) (Y4 ?_);refine bx 10 _ rfl (kl [2,3,4,5,6,65,66,67]) ?_;refine Y8 ?_;refine dZ 77 ?_;obtain⟨bM,bc,b⟩:=e8 rfl b;refine oH 78 rfl rfl rfl rfl rfl (fun hC=>vc (bc hC)) ?_;refine jF 76 79 rfl rfl (fun hC=>buildSlice (TK rfl) rfl (TK rfl) rfl rfl rfl rfl rfl rfl) ?_;obtain⟨bN,bd,b⟩:=e8 rfl b
    refine oH 80 rfl rfl rfl rfl rfl (fun hC=>Cz (bd hC)) ?_;obtain⟨bO,be,b⟩:=ej (fun _=>rfl) b;refine vN 75 81 rfl rfl rfl rfl rfl rfl (fun hC=>Cy (be hC)) ?_;refine Y2 ?_;obtain⟨bQ,ao,b⟩:=cM b;refine cO b (fun bf b=>?_) (fun bf b=>?_)
    ·refine ah.draw rfl ?_;refine Y6 ?_;obtain⟨bR,bg,b⟩:=qO rfl b;refine cH rfl rfl (tP bg) (Y2 ?_);obtain⟨ap,bh,b⟩:=qO rfl b;refine aN.sH (Ds (f:=Z8.c) (s:=M) (TK rfl) rfl (TK rfl) (TK rfl) ⟨_,rfl⟩ rfl rfl rfl rfl rfl rfl (af.aS _ _ _) rfl rfl bh) rfl ?_;refine aN.fP (h':=B.set ids.im (some (.arr 2 (ap.l.map Z8.c)))) (af.set_set _ _ _ _) ?_;refine Y1 ?_
     refine aN.gD (jC (TK rfl) rfl rfl rfl rfl (by repeat (first|exact bn.zero|apply bn.succ)) (by repeat (first|exact bn.zero|apply bn.succ))) ?_;refine Y1 ?_;exact am _ ap wA (ku ao b:)
    refine ah.skip ?_;exact am _ M wA (ku ao b:)
   rintro bi b;refine Y1 ?_;refine s0 (p6 rfl rfl (by dsimp only; omega) (by dsimp only; omega)) rfl ?_;refine Y2 ?_;exact a9 _ (i+1,bi) wA ⟨ba,b⟩ (by show a1.au.l.length-(i+1)<a1.au.l.length-i; omega)
  rw [gE] at b;refine ah.exit ?_;exact a8 _ M wA (oJ b)
 rintro M b;subst b;refine ar fun bU bj=>ah.cq 1 _ rfl (fun j w cs hh hx=>iE 4 hx rfl) ?_;refine ah.cq 1 _ rfl (fun j w cs hh hx=>Xo 5 2 ids.im hh (af.aS _ _ _) (List.length_map _).symm hx rfl) ?_;refine Y4 ?_;refine bj _ ?_;refine ry ?_;have bk:kZ a0 a1 ids=⟨ids.ip,ids.im,ids.ii,kz.map (·.2)⟩:=by
  unfold kZ vg;rw [av,m.vh,List.take_of_length_le (by omega)]
 have K:cU.c (fB (ag.mk a1.ak a1.aa x5 g ⟨kz.isEmpty,kz.map (·.1)⟩ M x7) ⟨ids.ip,ids.im,ids.ii,kz.map (·.2)⟩)=fC a1 (bP 1 ids.ip x5.nl x5.l.length) (Sl.d 2 aD.c none g) (Sl.d 5 eD none ⟨kz.isEmpty,kz⟩) (bP 2 ids.im M.nl M.l.length) (bP 10 ids.ii x7.nl x7.l.length):=by
  unfold fB;simp only [CJ];rfl
 rw [bk,K];refine bH.b9 (lS H (fN (ag.mk a1.ak a1.aa x5 g ⟨kz.isEmpty,kz.map (·.1)⟩ M x7) ⟨ids.ip,ids.im,ids.ii,kz.map (·.2)⟩)) rfl ⟨rfl,rfl⟩ ?_;exact iA.fin m u bt M
/-! ### Rounds, without the numbers -/
def cL (l:List ag) (n:Bs):Bool:=!(l.any fun t=>t.aa==n)&&!cW n
def gF (g:Bs->Bool) (s:Sl Z7):Sl Z7:=⟨s.nl,s.l.filter fun x=>!(g x.ax.aa&&pM x)⟩
def tH (g:Bs->Bool) (s:Sl Z7):Bool:=s.l.any fun x=>g x.ax.aa&&!pM x
def pR (g:Bs->Bool) (s:Sl Z7):Bool:=decide ((((gF g s).l.length:Nat):Int)<((s.l.length:Nat):Int))
def gG (g:Bs->Bool):List Z6->Bool->List Z6×Bool
 | [],ch=>([],ch)
 | f::l,ch=>bif tH g f.az||g f.ax.aa then gG g l true
  else(Z6.mk f.aa (gF g f.az) f.ax f.aM::(gG g l (ch||pR g f.az)).1,(gG g l (ch||pR g f.az)).2)
def tI (g:Bs->Bool) (t:ag):Sl Z8:=bif decide (t.ak=(3:Int)) then⟨t.au.nl,t.au.l.filter fun x=>!g x.aa⟩ else t.au
def wY (g:Bs->Bool) (t:ag):Sl Bs:=⟨t.aH.nl,t.aH.l.filter fun x=>!g x⟩
def tJ (g:Bs->Bool) (t:ag) (ch:Bool):Bool:=((gG g t.an.l ch).2||pR g t.ay)||decide ((((tI g t).l.length:Nat):Int)+(((wY g t).l.length:Nat):Int)<((t.au.l.length:Nat):Int)+((t.aH.l.length:Nat):Int))
def tK (g:Bs->Bool) (t:ag) (ch:Bool):List Z6:=(gG g t.an.l ch).1
def jw (g:Bs->Bool) (t:ag) (ch:Bool):ag:=ag.mk t.ak t.aa (wY g t) t.aM ⟨(tK g t ch).isEmpty,tK g t ch⟩ (tI g t) (gF g t.ay)
def oh (g:Bs->Bool) (t:ag) (ch:Bool):Bool :=
 bif (bif decide (t.ak=(1:Int)) then decide (t.ak=(1:Int)) else decide (t.ak=(2:Int))) then decide ((0:Int)<(((tK g t ch).length:Nat):Int)) else
 bif (bif decide (t.ak=(3:Int)) then decide (t.ak=(3:Int)) else decide (t.ak=(4:Int))) then decide ((0:Int)<(((tI g t).l.length:Nat):Int)) else
 (!tH g t.ay)&&decide ((0:Int)<(((gF g t.ay).l.length:Nat):Int))
def j9 (g:Bs->Bool):List ag->Bool->List ag×Bool
 | [],ch=>([],ch)
 | t::l,ch=>bif oh g t ch then(jw g t ch::(j9 g l (tJ g t ch)).1,(j9 g l (tJ g t ch)).2) else j9 g l true
section
variable {d:iT}{g:Bs->Bool}
theorem Xq (hg:∀b n,ga ⟨d,b⟩ n=g n) (x:Z7) (b:Bool):xF x ⟨d,b⟩=(g x.ax.aa&&!pM x):=by
 unfold xF; rw [hg]; simp only [on]; cases g x.ax.aa<;>rfl
theorem Xr (hg:∀b n,ga ⟨d,b⟩ n=g n) (x:Z7) (b:Bool):rp x ⟨d,b⟩=(g x.ax.aa&&pM x):=by
 unfold rp; rw [hg]; simp only [on]; cases g x.ax.aa<;>rfl
theorem M7 (hg:∀b n,ga ⟨d,b⟩ n=g n) (s:Sl Z7) (b:Bool):kX ⟨d,b⟩ s=(gF g s,tH g s,⟨d,b||pR g s⟩):=by
 unfold kX gF tH pR gF;simp only [Xq hg,Xr hg]
theorem zY (hg:∀b n,ga ⟨d,b⟩ n=g n):∀(l:List Z6) (ch:Bool),gJ d l ch=gG g l ch
 | [],ch=>rfl
 | f::l,ch=>by
  rw [gJ,gG,M7 hg,hg,zY hg l,zY hg l]
theorem zZ (hg:∀b n,ga ⟨d,b⟩ n=g n) (t:ag) (ch:Bool):ot ⟨d,ch⟩ t=(gF g t.ay,tH g t.ay,⟨d,(gG g t.an.l ch).2||pR g t.ay⟩):=by
 unfold ot; rw [zY hg,M7 hg]
theorem F9 (hg:∀b n,ga ⟨d,b⟩ n=g n) (t:ag) (ch:Bool):mV ⟨d,ch⟩ t=tI g t:=by
 unfold mV tI; rw [zZ hg]; unfold mS; simp only [on,hg]
theorem M8 (hg:∀b n,ga ⟨d,b⟩ n=g n) (t:ag) (ch:Bool):xI ⟨d,ch⟩ t=wY g t:=by
 unfold xI wY; rw [zZ hg]; simp only [hg]
theorem F_ (hg:∀b n,ga ⟨d,b⟩ n=g n):∀(l:List ag) (ch:Bool),iz d l ch=j9 g l ch
 | [],ch=>rfl
 | t::l,ch=>by
  have h1:ou ⟨d,ch⟩ t=oh g t ch:=by unfold ou oh vf tK; rw [zY hg,F9 hg,zZ hg]
  have f:mW ⟨d,ch⟩ t=jw g t ch:=by unfold mW jw vf tK; rw [zY hg,F9 hg,zZ hg,M8 hg]
  have j:jL ⟨d,ch⟩ t=tJ g t ch:=by unfold jL tJ; rw [F9 hg,zZ hg,M8 hg]
  rw [iz,j9,h1,f,j,F_ hg l,F_ hg l]
end
theorem M9 (n:Bs):∀l:List cU,(match rm n l with|.inl _=>false|.inr e=>e.2)=l.any fun t=>t.aa==n
 | []=>rfl
 | t::l=>by
  rw [rm];simp only [on];cases h:t.aa==n
  ·simp only [cond_false,List.any_cons,h,Bool.false_or]; exact M9 n l
  simp [h]
theorem Xs (s:Sl (ag×bT)) (b:Bool) (n:Bs):ga ⟨eR s,b⟩ n=cL (s.l.map (·.1)) n:=by
 have h:=M9 n (s.l.map fun p=>fB p.1 p.2);have f:((s.l.map fun p=>fB p.1 p.2).any fun t=>t.aa==n)=((s.l.map (·.1)).any fun t=>t.aa==n):=by rw [List.any_map,List.any_map]; rfl
 unfold ga CG cL;rw [<- f,<- h];unfold eR;simp only [on];cases rm n (s.l.map fun p=>fB p.1 p.2) with
 | inl _=>rfl
 | inr e=>rcases e with ⟨j,g⟩; cases g<;>rfl
def gW (l:List ag):List ag×Bool:=j9 (cL l) l false
theorem round_eq (s:Sl (ag×bT)):iz (eR s) (s.l.map (·.1)) false=gW (s.l.map (·.1)):=F_ (fun b n=>Xs s b n) _ _
def w8 (t:ag):Bool:=decide (t.an.l.length<=1000000)&&(decide (t.au.l.length<=1000000)&&decide (t.aH.l.length<=1000000))
def j_ (l:List ag):Bool:=decide (l.length<=1000000)&&l.all w8
theorem M_ {l:List ag}(h:j_ l=true):l.length<=1000000/\∀t∈l,t.an.l.length<=1000000/\t.au.l.length<=1000000/\t.aH.l.length<=1000000:=by
 unfold j_ at h;obtain⟨h1,f⟩:=Bool.and_eq_true_iff.1 h;refine⟨oD h1,fun t ht=>?_⟩;have b:=List.all_eq_true.1 f t ht;unfold w8 at b;obtain⟨g,j⟩:=Bool.and_eq_true_iff.1 b;obtain⟨k,m⟩:=Bool.and_eq_true_iff.1 j;exact⟨oD g,oD k,oD m⟩
/-! ### The whole schema becomes data again -/
noncomputable def Ga (d:ai) (b:Bool):List D:=[Sl.d 7 ag.c none d.aj,.bool b]
theorem Th.field {O:List (Nat×Ab.Obj)}{j j':J}{w:World}(b:rU O j w j'){p:Z6×Nat}(hm:(p.2,iV p.1)∈O):aQ (Th j w j') (eD p) (Z6.c p.1) :=
 .cons (Th.same b.1 _) (.cons (Th.arr b hm (List.length_map _).symm) (Th.list b.1 _))
theorem Th.fields {O:List (Nat×Ab.Obj)}{j j':J}{w:World}(b:rU O j w j'){l:List Z6}{ks:List Nat}{nl:Bool}(hl:ks.length=l.length) (hm:∀p∈l.zip ks,(p.2,iV p.1)∈O):Th j w j' (Sl.d 5 eD none ⟨nl,l.zip ks⟩) (Sl.d 5 Z6.c none ⟨nl,l⟩):=by
 have e:l=(l.zip ks).map (·.1):=(List.map_fst_zip (by omega)).symm;have h:Th j w j' (.slice 5 none nl ((l.zip ks).map eD)) (.slice 5 none nl ((l.zip ks).map fun p=>Z6.c p.1)) :=
  Th.rows b.1 (fun r hr=>by obtain⟨p,_,rfl⟩:=List.mem_map.1 hr; rfl) (DJ fun p f=>Th.field b (hm p f))
 have g:((l.zip ks).map fun p=>Z6.c p.1)=l.map Z6.c:=by
  conv=>rhs; rw [e,List.map_map]
  rfl
 rw [g] at h; exact h
theorem Th.Xt {O:List (Nat×Ab.Obj)}{j j':J}{w:World}(b:rU O j w j'){t:ag}{i:bT}(hl:i.fs.length=t.an.l.length) (hm:∀q∈fN t i,q∈O):aQ (Th j w j') (cU.c (fB t i)) (ag.c t) :=
 .cons (Th.same b.1 _) (.cons (Th.same b.1 _) (.cons (Th.arr b (hm _ (by simp [fN])) (List.length_map _).symm) (.cons (Th.same b.1 _)
  (.cons (Th.fields b hl fun p f=>hm _ (by unfold fN; simp only [List.mem_cons,List.mem_map]; exact .inr (.inr (.inr ⟨p,f,rfl⟩)))) (.cons (Th.arr b (hm _ (by simp [fN])) (List.length_map _).symm) (.cons (Th.arr b (hm _ (by simp [fN])) (List.length_map _).symm) .nil))))))
theorem Th.Cm {O:List (Nat×Ab.Obj)}{j j':J}{w:World}(b:rU O j w j'){L:List (ag×bT)}{nl ch:Bool}(hl:∀p∈L,p.2.fs.length=p.1.an.l.length) (hm:∀p∈L,∀q∈fN p.1 p.2,q∈O) :
  aQ (Th j w j') (cR.c ⟨eR ⟨nl,L⟩,ch⟩) (Ga ⟨⟨nl,L.map (·.1)⟩⟩ ch):=by
 have h:Th j w j' (.slice 7 none nl (L.map fun p=>cU.c (fB p.1 p.2))) (.slice 7 none nl (L.map fun p=>ag.c p.1)) :=
  Th.rows b.1 (fun r hr=>by obtain⟨p,_,rfl⟩:=List.mem_map.1 hr; rfl) (DJ fun p f=>Th.Xt b (hl p f) (hm p f))
 have g:(L.map fun p=>cU.c (fB p.1 p.2))=(L.map fun p=>fB p.1 p.2).map cU.c:=by rw [List.map_map]; rfl
 have k:(L.map fun p=>ag.c p.1)=(L.map (·.1)).map ag.c:=by rw [List.map_map]; rfl
 rw [g,k] at h;exact .cons h (.cons (Th.same b.1 _) .nil)
theorem Na {t:ag}{i:bT}(h:i.fs.length=t.an.l.length):(fN t i).map (·.1)=i.all:=by
 unfold fN bT.all;simp only [List.map_cons,List.map_map];have:((fun p:Nat×Ab.Obj=>p.1) ∘ fun p:Z6×Nat=>(p.2,iV p.1))=fun p=>p.2:=rfl;rw [this,List.map_snd_zip (by omega)]
theorem Xu {L:List (ag×bT)}(h:∀p∈L,p.2.fs.length=p.1.an.l.length):(L.flatMap fun p=>fN p.1 p.2).map (·.1)=L.flatMap (·.2.all):=by
 induction L with
 | nil=>rfl
 | cons p L b =>
  rw [List.flatMap_cons,List.flatMap_cons,List.map_append,b fun q hq=>h q (.tail _ hq),Na (h p (.head _))]
theorem gX.own {B:af}{t:ag}{i:bT}(h:gX B t i):∀q∈fN t i,B q.1=some q.2/\∃k rows,q.2=.arr k rows:=fun q hq=>by
 unfold fN at hq;simp only [List.mem_cons,List.mem_map] at hq;rcases hq with rfl|rfl|rfl|⟨p,b,rfl⟩
 ·exact⟨h.ip,_,_,rfl⟩
 ·exact⟨h.im,_,_,rfl⟩
 ·exact⟨h.ii,_,_,rfl⟩
 exact⟨h.fs p b,_,_,rfl⟩
/-! ### The first step for all definitions, the rounds -/
def q6 (a0:Z2) (a2:Sl Bs):List ag->Option (List ag)
 | []=>some []
 | t::l=>(j8 t.aM).bind fun x=>bif !tF x a2 then(pJ a0 t).bind fun y=>(q6 a0 a2 l).bind fun r=>some (y::r) else q6 a0 a2 l
def q9:Nat->List ag->Option (List ag)
 | 0,_=>none
 | n+1,l=>bif j_ l then bif (gW l).2 then q9 n (gW l).1 else some (gW l).1 else none
def Nb (n:Nat) (ch:Bool) (l:List ag):Option (List ag):=bif ch then q9 n l else some l
def zF (a0:ai) (k:(Sl Bs)) (g:(Sl Bs)):Option (ai×(Sl Z5)) :=
 bif j_ a0.aj.l then(q6 ⟨k,g⟩ g a0.aj.l).bind fun j=>(q9 F0 j).bind fun b=>(CD (ai.mk ⟨b.isEmpty,b⟩)).bind fun f=>bif (decide ((0:Int)<((f.l.length:Nat):Int))) then(some ((ai.mk Sl.nil),f)) else(some ((ai.mk ⟨b.isEmpty,b⟩),(Sl.nil:Sl Z5))) else none
def D6 (a0:ai) (b:(Sl Bs)) (f:(Sl Bs)):Option (ai×(Sl Z5)):=zF a0 b f
/-- The definitions made so far, their slices, and what is as it was. -/
structure ow (H:af) (tk:Nat) (kz:List (ag×bT)) (B:af):Prop where
 bt:B tk=some (.tok 7 kz.length)
 own:∀p∈kz,gX B p.1 p.2
 nd:(tk::kz.flatMap (·.2.all)).Nodup
 new:∀p∈kz,∀x∈p.2.all,H x=none
 fp:∀x,H x≠none->B x=H x
noncomputable def z6 (tk:Nat) (kz:List (ag×bT)):List D:=[Sl.d 7 cU.c (some tk) ⟨kz.isEmpty,kz.map aP⟩,.bool false]
/-- Fresh numbers for a definition. -/
theorem ru.of {B:af}{t:ag}{ks:List Nat}{a b c:Nat}(hl:ks.length=t.an.l.length) (hn:ks.Nodup) (w:∀x∈ks,B x=none) (m:kw B 10 ks a=none) (f:((kw B 10 ks).set a (some (.arr 1 []))) b=none)
  (hc:(((kw B 10 ks).set a (some (.arr 1 []))).set b (some (.arr 2 []))) c=none) :
  ru ((((kw B 10 ks).set a (some (.arr 1 []))).set b (some (.arr 2 []))).set c (some (.arr 10 []))) t ⟨a,b,c,ks⟩/\(∀x∈(bT.mk a b c ks).all,B x=none) /\
   (∀x,x∉(bT.mk a b c ks).all->((((kw B 10 ks).set a (some (.arr 1 []))).set b (some (.arr 2 []))).set c (some (.arr 10 []))) x=B x):=by
 have g:∀x,x∈ks->kw B 10 ks x=some (.arr 10 []):=fun x hx=>if_pos hx;have j:∀x,x∉ks->kw B 10 ks x=B x:=fun x hx=>if_neg hx;have p:b≠a:=fun e=>by rw [e,af.aS] at f; cases f
 have q:c≠b:=fun e=>by rw [e,af.aS] at hc; cases hc
 rw [af.aO _ _ q] at hc;have r:c≠a:=fun e=>by rw [e,af.aS] at hc; cases hc
 rw [af.aO _ _ r] at hc;rw [af.aO _ _ p] at f;have s:a∉ks:=fun h=>by rw [g a h] at m; cases m
 have u:b∉ks:=fun h=>by rw [g b h] at f; cases f
 have v:c∉ks:=fun h=>by rw [g c h] at hc; cases hc
 refine⟨⟨hl, ?_, ?_,af.aS _ _ _,fun k hk=>?_, ?_⟩,fun x hx=>?_,fun x hx=>?_⟩
 ·dsimp only; rw [af.aO _ _ (fun e=>r e.symm),af.aO _ _ (fun e=>p e.symm),af.aS]
 ·dsimp only; rw [af.aO _ _ (fun e=>q e.symm),af.aS]
 ·dsimp only at hk;rw [af.aO _ _ (fun e=>v (by rw [<- e]; exact hk)),af.aO _ _ (fun e=>u (by rw [<- e]; exact hk)),af.aO _ _ (fun e=>s (by rw [<- e]; exact hk)),g k hk]
 ·simp only [bT.all,List.nodup_cons,List.mem_cons,not_or];exact⟨⟨fun e=>p e.symm,fun e=>r e.symm,s⟩,⟨fun e=>q e.symm,u⟩,v,hn⟩
 ·simp only [bT.all,List.mem_cons] at hx;rcases hx with rfl|rfl|rfl|hx
  ·rw [<- j _ s]; exact m
  ·rw [<- j _ u]; exact f
  ·rw [<- j _ v]; exact hc
  exact w x hx
 simp only [bT.all,List.mem_cons,not_or] at hx;obtain⟨h1,y,z,C⟩:=hx;rw [af.aO _ _ z,af.aO _ _ y,af.aO _ _ h1,j x C]
theorem Gb {a0:Z2}{x3:Sl Bs}: ∀(l:List Z6) (ks:List Nat) (y b:ag),ks.length=l.length->jv a0 x3 l y=some b->b.an.l.length=y.an.l.length+(vg a0 x3 l ks).length
 | [],ks,y,b,_,h=>by rw [jv] at h; obtain rfl:=oJ h; simp [vg]
 | f::l,[],y,b,hl,h=>by cases hl
 | f::l,k::ks,y,b,hl,h=>by
  rw [jv] at h;simp only [on] at h;obtain⟨s,h1,h⟩:=bw h;obtain⟨j,p,h⟩:=bw h;have g:ov a0 x3 f=mN a0 j:=by unfold ov; rw [h1,oB,p]
  have m:ks.length=l.length:=by simpa using hl
  cases e:mN a0 j with
  | true =>
   rw [e] at h g;simp only [cond_true] at h;obtain⟨z,hz,h⟩:=bw h;obtain⟨t,_,hz⟩:=bw hz;obtain⟨u,_,hz⟩:=bw hz;obtain⟨v,_,hz⟩:=bw hz;obtain⟨w,q,hz⟩:=bw hz;obtain rfl:=oJ hz;obtain⟨r,_,_⟩:=AF q;rw [Gb l ks _ _ m h];subst r;unfold vg;rw [List.zip_cons_cons,List.filter_cons,if_pos g];simp; omega
  | false =>
   rw [e] at h g;simp only [cond_false,oB] at h;rw [Gb l ks _ _ m h];unfold vg;rw [List.zip_cons_cons,List.filter_cons,if_neg (by simp [g])]
theorem Nc {a0:Z2}{f:ag}{x3:Sl Bs}: ∀(l:List Z8) (y b:ag),gE a0 f x3 l y=some b->b.an=y.an
 | [],y,b,h=>by rw [gE] at h; obtain rfl:=oJ h; rfl
 | m::l,y,b,h=>by
  rw [gE] at h;simp only [on] at h;obtain⟨j,_,h⟩:=AG h;obtain⟨g,_,h⟩:=AG h;obtain⟨z,hz,h⟩:=bw h;rw [Nc l _ _ h]
  revert hz
  cases ((!decide (f.ak=(4:Int)))||(bif !(!decide (f.ak=(4:Int))) then mN a0 g else false)) with
  | true =>
   intro hz;simp only [cond_true] at hz;obtain⟨k,_,hz⟩:=bw hz;obtain⟨p,_,hz⟩:=bw hz;obtain rfl:=oJ hz; rfl
  | false=>intro hz; simp only [cond_false] at hz; obtain rfl:=oJ hz; rfl
theorem Xv {a0:Z2}{a1 r:ag}{i:bT}(h:pJ a0 a1=some r) (hl:i.fs.length=a1.an.l.length):(kZ a0 a1 i).fs.length=r.an.l.length:=by
 unfold pJ zA at h;obtain⟨x3,b,h⟩:=bw h;obtain⟨x5,_,h⟩:=bw h;obtain⟨g,_,h⟩:=bw h;obtain⟨x7,_,h⟩:=bw h;obtain⟨z,hz,h⟩:=bw h;simp only [on] at h;obtain⟨z2,f,h⟩:=bw h;obtain rfl:=oJ h;unfold kZ;rw [b];dsimp only;rw [Nc _ _ _ f,Gb _ _ _ _ hl hz];simp [Sl.nil]
theorem Xw {a0:Z2}{a1:ag}{i:bT}(hl:i.fs.length=a1.an.l.length) (hn:i.all.Nodup):(∀x∈(kZ a0 a1 i).all,x∈i.all)/\(kZ a0 a1 i).all.Nodup:=by
 have b:(kZ a0 a1 i).all.Sublist i.all:=by
  unfold kZ;cases j8 a1.aM with
  | none=>exact List.Sublist.refl _
  | some x3 =>
   dsimp only;unfold bT.all vg;refine List.Sublist.cons_cons _ (List.Sublist.cons_cons _ (List.Sublist.cons_cons _ ?_));have:=List.Sublist.map (·.2) (List.filter_sublist (l:=a1.an.l.zip i.fs) (p:=fun p=>ov a0 x3 p.1))
   rwa [List.map_snd_zip (by omega)] at this
 exact⟨fun x hx=>b.subset hx,b.nodup hn⟩
theorem ow.start {H:af}{tk:Nat}(hk:H tk=none):ow H tk [] (H.set tk (some (.tok 7 0))) :=
 ⟨af.aS _ _ _,fun p b=>(by cases b),by simp,fun p b=>(by cases b),fun x hx=>by rw [af.aO _ _ (fun e=>hx (by rw [e]; exact hk))]⟩
theorem ow.next {H:af}{tk:Nat}{kz:List (ag×bT)}{B j:af}(h:ow H tk kz B) (y:H tk=none){r:ag}{i f:bT}(hn:∀x∈i.all,B x=none) (hk:∀x,x∉i.all->j x=B x) (q:∀x∈f.all,x∈i.all) (s:f.all.Nodup) (hl:f.fs.length=r.an.l.length) :
  lS j (fN r f) tk=some (.tok 7 kz.length)/\ow H tk (kz++[(r,f)]) ((lS j (fN r f)).set tk (some (.tok 7 (kz++[(r,f)]).length))):=by
 have t:=Na hl;have out:∀x,B x≠none->x∉f.all/\lS j (fN r f) x=B x:=fun x hx=>by
  have h1:x∉i.all:=fun hm=>hx (hn x hm);have u:x∉f.all:=fun hm=>h1 (q x hm);exact⟨u,by rw [M6 (by rw [t]; exact u),hk x h1]⟩
 have v:=out tk (by rw [h.bt]; simp);obtain⟨m1,z⟩:=List.nodup_cons.1 h.nd;have k:((fN r f).map (·.1)).Nodup:=by rw [t]; exact s
 have C:∀x∈f.all,H x=none:=fun x hx=>by
  cases e:H x with
  | none=>rfl
  | some o=>have h1:=hn x (q x hx); rw [h.fp x (by rw [e]; simp),e] at h1; cases h1
 have E:gX (lS j (fN r f)) r f:=⟨hl,zX (p:=(f.ip,_)) k (by simp [fN]),zX (p:=(f.im,_)) k (by simp [fN]),zX (p:=(f.ii,_)) k (by simp [fN]),fun p g =>
  zX (p:=(p.2,iV p.1)) k (by unfold fN; simp only [List.mem_cons,List.mem_map]; exact .inr (.inr (.inr ⟨p,g,rfl⟩)))⟩
 have i0:∀x∈f.all,x≠tk:=fun x hx e=>v.1 (e▸hx);have w:∀p∈kz,∀x∈p.2.all,x≠tk/\x∉f.all/\lS j (fN r f) x=B x:=fun p g x hx=>by
  have hm:x∈kz.flatMap (·.2.all):=List.mem_flatMap.2 ⟨p,g,hx⟩;obtain⟨a,b⟩:=out x ((h.own p g).ne x hx);exact⟨fun e=>m1 (e▸hm),a,b⟩
 refine⟨v.2.trans h.bt,af.aS _ _ _,fun p g=>?_, ?_,fun p g x hx=>?_,fun x hx=>?_⟩
 ·rcases List.mem_append.1 g with g|g
  ·exact(h.own p g).congr fun x hx=>by obtain⟨b,c,d⟩:=w p g x hx; rw [af.aO _ _ b,d]
  obtain rfl:=List.mem_singleton.1 g;exact E.congr fun x hx=>by rw [af.aO _ _ (i0 x hx)]
 ·rw [List.flatMap_append];have e:([(r,f)]:List (ag×bT)).flatMap (·.2.all)=f.all:=by simp
  rw [e];refine List.nodup_cons.2 ⟨fun hm=>?_,List.nodup_append.2 ⟨z,s,fun a F b m e=>?_⟩⟩
  ·rcases List.mem_append.1 hm with hm|hm
   ·exact m1 hm
   exact i0 _ hm rfl
  obtain⟨p,g,hx⟩:=List.mem_flatMap.1 F;exact(w p g a hx).2.1 (e▸m)
 ·rcases List.mem_append.1 g with g|g
  ·exact h.new p g x hx
  obtain rfl:=List.mem_singleton.1 g; exact C x hx
 have m:=h.fp x hx;rw [af.aO _ _ (fun e=>hx (by rw [e]; exact y)),(out x (by rw [m]; exact hx)).2,m]
/-- The schema of a round, its slices, and what is as it was. -/
structure xK (H:af) (c0:Nat) (L:List (ag×bT)) (ch:Bool) (B:af):Prop where
 bX:B c0=some (.cells (cR.c ⟨eR ⟨L.isEmpty,L⟩,ch⟩))
 own:∀p∈L,gX B p.1 p.2
 nd:(c0::L.flatMap (·.2.all)).Nodup
 new:∀p∈L,∀x∈p.2.all,H x=none
 fp:∀x,H x≠none->B x=H x
theorem ow.round {H:af}{c0 tk:Nat}{kz:List (ag×bT)}{B:af}(h:ow H tk kz B) (h0:B c0=none):H c0=none/\xK H c0 kz false (B.set c0 (some (.cells (cR.c ⟨eR ⟨kz.isEmpty,kz⟩,false⟩)))):=by
 obtain⟨m1,g⟩:=List.nodup_cons.1 h.nd;have hH:H c0=none:=by
  cases e:H c0 with
  | none=>rfl
  | some o=>rw [h.fp c0 (by rw [e]; simp),e] at h0; cases h0
 have f:∀p∈kz,∀x∈p.2.all,x≠c0:=fun p b x hx e=>(h.own p b).ne x hx (e▸h0);exact⟨hH,af.aS _ _ _,fun p b=>(h.own p b).congr fun x hx=>af.aO _ _ (f p b x hx),List.nodup_cons.2 ⟨fun hm=>by obtain⟨p,b,hx⟩:=List.mem_flatMap.1 hm; exact f p b c0 hx rfl,g⟩,h.new,
  fun x hx=>by rw [af.aO _ _ (fun e=>hx (by rw [e]; exact hH))]; exact h.fp x hx⟩
theorem xK.next {H:af}{c0:Nat}{L:List (ag×bT)}{ch:Bool}{B h':af}(h:xK H c0 L ch B) (h0:H c0=none) (b:F5 B h' c0 L (eR ⟨L.isEmpty,L⟩)) :
  ∃L',xK H c0 L' (gW (L.map (·.1))).2 h'/\L'.map (·.1)=(gW (L.map (·.1))).1:=by
 obtain⟨⟨L',g1,g2,g3,g4,g5⟩,g6⟩:=b;rw [round_eq ⟨L.isEmpty,L⟩] at g1 g2;refine⟨L',⟨g1,g3,g4,fun p b x hx=>?_,fun x hx=>?_⟩,g2⟩
 ·rcases g5 p b x hx with hm|hm
  ·obtain⟨q,hq,f⟩:=List.mem_flatMap.1 hm;exact h.new q hq x f
  cases e:H x with
  | none=>rfl
  | some o=>rw [h.fp x (by rw [e]; simp),e] at hm; cases hm
 have g:=h.fp x hx;rw [g6 x (fun e=>hx (by rw [e]; exact h0)) (fun hm=>by obtain⟨q,hq,f⟩:=List.mem_flatMap.1 hm; exact hx (h.new q hq x f)) (by rw [g]; exact hx),g]
theorem Nd {n:Nat}{l r:List ag}(h:q9 n l=some r):∃m,m<n/\j_ l=true/\Nb m (gW l).2 (gW l).1=some r:=by
 cases n with
 | zero=>cases h
 | succ n =>
  rw [q9] at h;cases e:j_ l with
  | false=>rw [e] at h; cases h
  | true=>rw [e] at h; exact⟨n,nS _,rfl,h⟩
theorem Nf {L:List (ag×bT)}(h:j_ (L.map (·.1))=true):(∀p∈L,p.1.an.l.length<=1000000/\p.1.au.l.length<=1000000/\p.1.aH.l.length<=1000000)/\L.length<=1000000:=by
 obtain⟨h1,b⟩:=M_ h;rw [List.length_map] at h1;exact⟨fun p f=>b p.1 (List.mem_map_of_mem f),h1⟩
theorem Iv {a0 E u aE aF oT gT r}(g:zF a0 E u=some r) (H:af) (ao:H gT=some oT) (aG:iq Tryz.prog oT):AC Tryz.prog 7 [.agg (ai.c a0),.d (Sl.d 1 aB aE E),.d (Sl.d 1 aB aF u)] H (RT (.cI [.agg (ai.c r.1),.d (Sl.d 2 Z5.c none r.2)]) H):=by
 unfold zF at g;cases Y:j_ a0.aj.l with
 | false=>rw [Y] at g; cases g
 | true =>
 rw [Y,cond_true] at g;obtain⟨R,aH,g⟩:=bO g;obtain⟨Z,aI,g⟩:=bO g;obtain⟨bs,aK⟩:=M_ Y;refine AC.oW 68 [.cell 6 24,.tmp 7] Tryz.call7 Tryz.func7 ?_;refine Y3 ?_;refine s0 (di (k':=2) rfl) rfl ?_;refine Y4 ?_;refine aJ.dV 13 rfl ?_;refine aJ.dV 14 rfl ?_;refine Y4 ?_;refine bx 8 _ rfl (kl [2,3,6]) ?_;refine Y2 ?_
 refine sE (dx.xX rfl) rfl (fun _ _ _ ⟨c0,bX,J,K,aL⟩=>?_);subst J K aL;refine Y2 ?_;refine ah.DK 9 rfl (af.aS _ _ _) ?_;refine ah.jR (h':=H) (af.Nu _ _ _ bX) ?_;refine ah.tok 7 fun y ap=>?_;refine ah.cq 1 (z6 y []) rfl (fun j w cs hh hx=>by exact tok_cell (xs:=Ga ai.zero false) 0 7 7 hh (t:=y) (af.aS _ _ _) hx rfl) ?_;have au:=ow.start ap
 generalize H.set y (some (.tok 7 0))=aM at au ⊢;refine cT (tl [6,9]) (fun(z:List (ag×bT)×af)=>[]) (fun z=>[[D.slice 7 none true []],z6 y z.1]) (fun z=>z.2) (fun z=>ow H y z.1 z.2/\z.1.map (·.1)=R) ?_ ?_
 ·intro bt aQ;refine Y3 ?_;refine aT ag.c a0.aj fun bu=>Y3 ?_;refine eZ (tl [2,6,8,9,19,20]) (fun(z:List (ag×bT)×Nat×af)=>[(21,vi z.2.1)]) (fun z=>[[D.slice 7 none true []],z6 y z.1]) (fun z=>z.2.2) (fun z=>a0.aj.l.length-z.2.1)
   (fun z=>ow H y z.1 z.2.2/\z.1.length<=z.2.1/\z.2.1<=a0.aj.l.length/\∃rest,q6 ⟨E,u⟩ u (a0.aj.l.drop z.2.1)=some rest/\z.1.map (·.1)++rest=R) ([],0,aM) ⟨au,Nat.le_refl _,Nat.zero_le _,R,aH,rfl⟩ wA ?_
  rintro ⟨kz,i,B⟩ ⟨G,I,aU,rest,k,S⟩ bv aW;dsimp only at G I aU k S;refine Y3 ?_;refine ar fun bz aX=>?_;refine ah.cond rfl (fun hc=>?_) (fun hc=>?_)
  ·dsimp only at hc;have hi:i<a0.aj.l.length:=by have:=oD hc; omega
   obtain⟨t,hx⟩:∃p,a0.aj.l[i]?=some p:=⟨_,List.getElem?_eq_getElem hi⟩;have aY:a0.aj.l.drop i=t::a0.aj.l.drop (i+1):=by rw [List.drop_eq_getElem_cons hi]; congr 1; exact(List.getElem?_eq_some_iff.1 hx).2
   rw [aY,q6] at k;obtain⟨aZ,_,_⟩:=aK t (List.mem_of_getElem? hx);refine sk aX (cT (tl [2,6,8,9,19,20,21]) (fun(z:List (ag×bT)×af)=>[]) (fun z=>[[D.slice 7 none true []],z6 y z.1]) (fun z=>z.2) (fun z=>ow H y z.1 z.2/\z.1.length<=i+1/\∃rest,q6 ⟨E,u⟩ u (a0.aj.l.drop (i+1))=some rest/\z.1.map (·.1)++rest=R) ?_ ?_)
   ·intro bA av;refine Y2 ?_;refine s0 (AH (f:=ag.c) (n:=i) (s:=a0.aj) (TK rfl) rfl (TK rfl) rfl rfl rfl hx) rfl ?_;refine Y4 ?_;refine bx 11 _ rfl (kl [2,6,8,9,19,20,21]) ?_;refine Y3 ?_;obtain⟨bB,a1,k⟩:=qT rfl k;refine Sc rfl rfl (vc a1) (Y1 ?_);refine s0 (jQ rfl rfl (fun H=>FG rfl H)) rfl ?_;refine Y2 ?_;refine ah.cond rfl (fun aa=>?_) (fun aa=>?_)
    ·rw [aa,cond_true] at k;obtain⟨U,aw,k⟩:=bw k;obtain⟨ab,W,k⟩:=bw k;obtain rfl:=oJ k;refine ah.HI 10 t.an.l.length fun ks a2 a3 a4=>?_;refine ah.rQ 1 fun M a5=>?_;refine ah.rQ 2 fun N a6=>?_;refine ah.rQ 10 fun O a7=>?_;obtain⟨P,a8,ax⟩:=ru.of a2 a3 a4 a5 a6 a7
     generalize (((kw B 10 ks).set M (some (.arr 1 []))).set N (some (.arr 2 []))).set O (some (.arr 10 []))=a9 at P ax ⊢;obtain⟨a_,a'⟩:=Xw (a0:=⟨E,u⟩) P.len P.nd;obtain⟨ba,X⟩:=G.next ap a8 ax a_ a' (Xv aw P.len);refine ah.draw rfl ?_;refine Y2 ?_;refine aN.s0 (GP rfl) rfl ?_;refine Y5 ?_;refine aN.sH (bS rfl rfl (Xp (a0:=⟨E,u⟩) aw P aZ)) rfl ?_
     refine Y1 ?_;refine aN.sH (iM (f:=cU.c) (s:=⟨kz.isEmpty,kz.map aP⟩) (r:=⟨false,[aP (U,kZ ⟨E,u⟩ t ⟨M,N,O,ks⟩)]⟩) (TK rfl) rfl (TK rfl) (TK rfl) ⟨_,rfl⟩ rfl rfl (by decide) rfl rfl rfl rfl ba (by simp) (F6 (z:=144) (by unfold cC; omega))) rfl ?_
     refine aN.fP (h':=(lS a9 (fN U (kZ ⟨E,u⟩ t ⟨M,N,O,ks⟩))).set y (some (.tok 7 (kz++[(U,kZ ⟨E,u⟩ t ⟨M,N,O,ks⟩)]).length))) (by rw [List.length_map]) ?_;refine aN.s0 (GP rfl) rfl ?_;refine Y2 ?_;refine aN.gD (jC (TK rfl) rfl rfl rfl rfl (by repeat (first|exact bn.zero|apply bn.succ)) (by repeat (first|exact bn.zero|apply bn.succ))) ?_;refine Y1 ?_
     exact av _ (kz++[(U,kZ ⟨E,u⟩ t ⟨M,N,O,ks⟩)],_) wA ⟨X,by rw [List.length_append]; exact Nat.succ_le_succ I,ab,W,by rw [List.map_append,List.append_assoc]; exact S⟩
    rw [aa,cond_false] at k;refine ah.skip ?_;exact av _ (kz,B) wA ⟨G,Nat.le_succ_of_le I,rest,k,S⟩
   rintro ⟨bb,bc⟩ ⟨X,ay,ab,W,az⟩;dsimp only at X ay W az;refine Y1 ?_;refine s0 (p6 rfl rfl (by dsimp only; omega) (by dsimp only; omega)) rfl ?_;refine Y2 ?_;exact aW _ (bb,i+1,bc) wA ⟨X,ay,hi,ab,W,az⟩ (by show a0.aj.l.length-(i+1)<a0.aj.l.length-i; omega)
  dsimp only at hc;have bd:i=a0.aj.l.length:=by have:=of_decide_eq_false hc; omega
  rw [bd,List.drop_length,q6] at k;obtain rfl:=oJ k;refine ah.exit ?_;exact aQ _ (kz,B) wA ⟨G,by rw [<- S,List.append_nil]⟩
 rintro ⟨kz,B⟩ ⟨G,I⟩;dsimp only at G I;subst I;refine ah.cq 1 (cR.c ⟨eR ⟨kz.isEmpty,kz⟩,false⟩) rfl (fun j w cs hh hx=>by exact iE (xs:=z6 y kz) 0 hx rfl) ?_;refine ah.DL (ls:=[[D.slice 7 none true []]]) 9 rfl (kl [6]) fun c0 bX=>?_;obtain⟨bX,b⟩:=G.round bX;have be:c0≠gT:=fun bf=>by rw [bf,ao] at bX; cases bX
 generalize B.set c0 (some (.cells (cR.c ⟨eR ⟨kz.isEmpty,kz⟩,false⟩)))=bC at b ⊢;refine aR (tl [6,9]) (fun(z:List (ag×bT)×af)=>[]) (fun z=>z.2) (fun z=>xK H c0 z.1 false z.2/\z.1.map (·.1)=Z) ?_ ?_
 ·intro bE bg;refine Y2 ?_;obtain⟨m,_,ad,F⟩:=Nd aI;obtain⟨ae,ak⟩:=Nf ad;refine sE (dx.call rfl rfl (M5 (s:=⟨kz.isEmpty,kz⟩) (ch:=false) (c0:=c0) ae ak b.bX b.own b.nd)) rfl (fun v aV h' ⟨⟨J,C⟩,K⟩=>?_);subst J K;obtain⟨L',al,am⟩:=b.next bX C;rw [<- am] at F;refine Y2 ?_
  refine bD (tl [6,9]) (fun(z:Nat×Bool×List (ag×bT)×af)=>[]) (fun z=>z.2.2.2) (fun z=>z.1) (fun z=>Nb z.1 z.2.1 (z.2.2.1.map (·.1))=some Z/\xK H c0 z.2.2.1 z.2.1 z.2.2.2) (m,_,L',h') ⟨F,al⟩ wA ?_;rintro ⟨m,ch,L,B⟩ ⟨F,b⟩ bF bh;dsimp only at F b;refine ar fun bG bi=>Y4 ?_;refine s0 (eM (TK rfl) rfl rfl b.bX rfl) rfl ?_;refine Y1 ?_;refine ah.cond rfl (fun Q=>?_) (fun Q=>?_)
  ·dsimp only at Q;subst Q;refine sk bi (Y3 ?_);obtain⟨m',bl,ad,F⟩:=Nd F;obtain⟨ae,ak⟩:=Nf ad;refine sE (dx.call rfl rfl (M5 (s:=⟨L.isEmpty,L⟩) (ch:=true) (c0:=c0) ae ak b.bX b.own b.nd)) rfl (fun v aV h' ⟨⟨J,C⟩,K⟩=>?_);subst J K;obtain⟨L',al,am⟩:=b.next bX C;rw [<- am] at F;refine Y1 ?_;exact bh _ (m',_,L',h') wA ⟨F,al⟩ bl
  dsimp only at Q;subst Q;refine ah.exit ?_;exact bg _ (L,B) wA ⟨b,oJ F⟩
 rintro ⟨L,B⟩ ⟨b,aC⟩;dsimp only at b aC;subst aC;have hlen:∀p∈L,p.2.fs.length=p.1.an.l.length:=fun p C=>(b.own p C).len;have aD:=Xu hlen;refine ah.PE (L.flatMap fun p=>fN p.1 p.2) c0 (fun q hq=>by obtain⟨p,C,hq⟩:=List.mem_flatMap.1 hq; exact(b.own p C).own q hq) (by rw [aD]; exact(List.nodup_cons.1 b.nd).2) b.bX
  (fun j w j' bj=>Th.Cm bj hlen fun p C q hq=>List.mem_flatMap.2 ⟨p,C,hq⟩) ?_
 rw [aD];refine ah.ua (ck.forget (h':=H.set c0 (some (.cells (Ga ⟨⟨L.isEmpty,L.map (·.1)⟩⟩ false)))) ?_) ?_
 ·intro x o hx;by_cases e:x=c0
  ·subst e;rw [af.aS] at hx ⊢;exact hx
  rw [af.aO _ _ e] at hx ⊢;have hn:H x≠none:=by rw [hx]; simp
  have hB:=b.fp x hn;dsimp only at hB ⊢;unfold jj;rw [if_neg (fun hm=>by obtain⟨p,C,bk⟩:=List.mem_flatMap.1 hm; exact hn (b.new p C x bk)),hB,hx]
 have bm:L.isEmpty=(L.map (·.1)).isEmpty:=List.isEmpty_map.symm;rw [bm];generalize L.map (·.1)=Z at g ⊢;refine ar fun bI bo=>Y4 ?_;refine s0 (eM (TK rfl) rfl rfl (af.aS _ _ _) rfl) rfl ?_;obtain⟨bp,bq,g⟩:=bO g;refine s0 (eY rfl rfl (W1 (gT:=gT) (oT:=oT) bq _ (by rw [af.aO _ _ (fun e=>be e.symm)]; exact ao) aG)) rfl ?_;refine Y4 ?_;refine aT Z5.c bp fun bJ=>Y2 ?_
 refine cE g (fun br g=>?_) (fun br g=>?_)
 ·refine Y6 ?_;refine ry ?_;obtain rfl:=oJ g;refine bH.b9 H rfl ⟨rfl,rfl⟩ ?_;exact af.AD bX
 refine sk bo (Y4 ?_);refine s0 (eM (TK rfl) rfl rfl (af.aS _ _ _) rfl) rfl ?_;refine Y1 ?_;refine s0 (di (k':=2) rfl) rfl ?_;refine Y1 ?_;refine ry ?_;obtain rfl:=oJ g;refine bH.b9 H rfl ⟨rfl,rfl⟩ ?_;exact af.AD bX
end Go.Proofs
