import Derived.Test.YtdlobimnfmjonaaGreatDoorV1
set_option maxRecDepth 100000
set_option maxHeartbeats 2000000
set_option linter.unusedVariables false
set_option linter.unusedSimpArgs false
namespace Go.Proofs
open Go Go.Ab
open aK an ag dJ fN
attribute [local irreducible] aK aN ag an
variable {au:bS}
def iz (a0:aL):Bool:=on (bif (decide ((0:Int)<((a0.aH.l.length:Nat):Int))) then((a0.aH.l)[0]?.getD (0:Int)) else(0:Int)) fun b=>((decide ((0:Int)<((a0.aH.l.length:Nat):Int)))&&(decide (b=(1:Int))))
theorem sM {a0 r}(b:some (iz a0)=some r) (H:af) :At 135 [.agg (aL.c a0)] H (RT (.a (.d (.bool r))) H):=by
 unfold iz at b;refine AC.oW 14 [.tmp 2] Tryz.call135 Tryz.func135 ?_;refine Y7 ?_;refine aU (bL .i64) a0.aH fun g=>Y3 ?_;refine Gk 8 ?_;obtain⟨j,f,b⟩:=iX (fun hc=>Q.getD_some (by simp at hc; omega)) b;refine bI 9 rfl (fun hC=>ix (bL .i64) 0 (f hC)) ?_;refine Gk 10 ?_;refine Gk 11 ?_;refine Y3 ?_;exact rt b
def pH (a0:aL):Option aL:=(mu a0.aH (some (1:Int)) none).bind fun x3=>(bh 8 (⟨false,[]⟩:Sl Int) x3).bind fun b=>some (aL.mk a0.aa b)
theorem Bv {a0 r}(b:pH a0=some r) (H:af) :At 192 [.agg (aL.c a0)] H (RT (.a (.agg (aL.c r))) H):=by
 unfold pH at b;refine AC.oW 11 [.cell 2 46] Tryz.call192 Tryz.func192 ?_;refine Y7 ?_;refine aN.s0 (uE (TK rfl) rfl (TK rfl) rfl rfl rfl rfl rfl rfl) rfl ?_;refine Y2 ?_;obtain⟨x3,g,b⟩:=aX b;refine aN.s0 (lN (f:=(bL .i64)) (l:=(some (1:Int))) (r:=none) (TK rfl) rfl (TK rfl) rfl rfl rfl trivial g) rfl ?_;obtain⟨k,j,b⟩:=aX b
 refine aN.s0 (yN (f:=(bL .i64)) (TK rfl) rfl (TK rfl) (TK rfl) ⟨_,rfl⟩ rfl rfl (by decide) rfl rfl rfl (by intro q h; cases h<;>decide) rfl rfl j) rfl ?_;refine Y3 ?_;exact rt b
def qV (a0:aL):Option aL:=on (iz a0) fun b=>bif b then((pH a0).bind fun x7=>some x7) else((bh 8 (⟨false,[]⟩:Sl Int) a0.aH).bind fun f=>some (aL.mk a0.aa f))
theorem Af {a0 r}(b:qV a0=some r) (H:af) :At 174 [.agg (aL.c a0)] H (RT (.a (.agg (aL.c r))) H):=by
 unfold qV at b;refine AC.oW 14 [.cell 2 46] Tryz.call174 Tryz.func174 ?_;refine Y4 ?_;refine ar fun p g=>Y2 ?_;obtain⟨s,j,b⟩:=dQ b;refine Sc rfl rfl (sM j) (Y1 ?_);refine cE b (fun k b=>?_) (fun k b=>?_)
 ·refine Y2 ?_;obtain⟨x7,l,b⟩:=aX b;refine Sc rfl rfl (Bv l) (Y2 ?_);exact rt b
 refine sk g (Y3 ?_);refine aN.s0 (uE (TK rfl) rfl (TK rfl) rfl rfl rfl rfl rfl rfl) rfl ?_;refine Y2 ?_;obtain⟨t,m,b⟩:=aX b;refine aN.s0 (yN (f:=(bL .i64)) (TK rfl) rfl (TK rfl) (TK rfl) ⟨_,rfl⟩ rfl rfl (by decide) rfl rfl rfl (by intro q h; cases h<;>decide) rfl rfl m) rfl ?_;refine Y3 ?_;exact rt b
def zq (a0:aL):Option Bool:=(qV a0).bind fun x3=>on (bif (decide ((0:Int)<((x3.aH.l.length:Nat):Int))) then((x3.aH.l)[0]?.getD (0:Int)) else(0:Int)) fun b=>some ((decide ((0:Int)<((x3.aH.l.length:Nat):Int)))&&(decide (b=(2:Int))))
theorem Vq {a0 r}(b:zq a0=some r) (H:af) :At 193 [.agg (aL.c a0)] H (RT (.a (.d (.bool r))) H):=by
 unfold zq at b;refine AC.oW 17 [.tmp 2] Tryz.call193 Tryz.func193 ?_;refine Y6 ?_;obtain⟨x3,f,b⟩:=aX b;refine Sc rfl rfl (Af f) (Y3 ?_);refine bC 3 _ rfl dJ.nil ?_;refine Y3 ?_;refine aU (bL .i64) x3.aH fun j=>Y3 ?_;refine Gk 11 ?_;obtain⟨k,g,b⟩:=nO (fun hc=>Q.getD_some (by simp at hc; omega)) b;refine bI 12 rfl (fun hC=>ix (bL .i64) 0 (g hC)) ?_;refine Gk 13 ?_
 refine Gk 14 ?_;refine Y3 ?_;exact rt b
def mQ (a0:aL):Option (aL×Bool):=(zq a0).bind fun b=>bif (!b) then(some ((aL.mk [] Sl.nil),false)) else((qV a0).bind fun f=>(pH f).bind fun g=>some (g,true))
theorem FV {a0 r}(b:mQ a0=some r) (H:af) :At 175 [.agg (aL.c a0)] H (RT (.cL [.agg (aL.c r.1),.d (.bool r.2)]) H):=by
 unfold mQ at b;refine AC.oW 11 [.cell 2 46,.tmp 3] Tryz.call175 Tryz.func175 ?_;refine Y5 ?_;refine ar fun m f=>Y2 ?_;obtain⟨p,g,b⟩:=aX b;refine Sc rfl rfl (Vq g) (Y2 ?_);refine cE b (fun j b=>?_) (fun j b=>?_)
 ·refine Y5 ?_;exact rt b
 refine sk f (Y2 ?_);obtain⟨q,k,b⟩:=aX b;refine Sc rfl rfl (Af k) ?_;obtain⟨s,l,b⟩:=aX b;refine Sc rfl rfl (Bv l) (Y3 ?_);exact rt b
def qW (b:Bs):List Z8->Unit ⊕ Bool
 | []=>Sum.inl ()
 | f::g=>on (f) fun j=>bif ((j.aa==b)) then(Sum.inr true) else(qW b (g) )
def ve (a0:ah) (g:Bs):Bool:=on (qW g a0.ax.l ) fun b=>match b with|Sum.inl _=>(on (()) fun _=>false)|Sum.inr f=>(f)
theorem MK {a0 f r}(b:some (ve a0 f)=some r) (H:af) :At 104 [.agg (ah.c a0),.d (.str f)] H (RT (.a (.d (.bool r))) H):=by
 unfold ve at b;refine AC.oW 21 [.tmp 4] Tryz.call104 Tryz.func104 ?_;refine Y4 ?_;refine aO kN (fun(z:Unit)=>[]) (fun z=>H) (fun z=>some (false)=some r) ?_ ?_
 ·intro B p;refine Y4 ?_;obtain⟨g,j,b⟩:=dU b;refine bz (tl [1,2]) (fun(z:Nat)=>[(5,vi z)]) (fun z=>H) (fun z=>a0.ax.l.length-z) (fun z=>g (qW f (a0.ax.l.drop z) )=some r) 0 b wA ?_;rintro k b C q;refine ar fun E s=>Y4 ?_;refine aU Z8.c a0.ax fun F=>Y2 ?_;refine ag.bJ (fun l=>g (qW f l )=some r) b rfl (fun G m t b=>?_) (fun t b=>?_)
  ·rw [qW] at b;refine sk s (ar fun I u=>Y5 ?_);obtain⟨J,v,b⟩:=vP m b;refine S (ix Z8.c k v) (Y5 ?_);refine cP b (fun w b=>?_) (fun w b=>?_)
   ·refine Y3 ?_;exact rs (ku j b:)
   refine sk u (Y5 ?_);exact q _ (k+1) wA b (dl m)
  rw [qW] at b;have b:=ku j b;refine ag.exit ?_;obtain⟨K,y,b⟩:=dU b;exact p _ () wA (ku y b:)
 rintro _ b;refine Y3 ?_;exact rt b
def FW  :Option Bool:=some true
def xa (a0:ak) (f:Int) :Nat->Int->Option Bool
 | 0,_=>none
 | g+1,b=>bif (decide (b<f)) then((c_ a0.aj.l b).bind fun j=>(c_ a0.aj.l f).bind fun k=>bif ((j.aa==k.aa)) then(some false) else((cN b (1:Int)).bind fun m=>(xa a0 f g) m)) else(FW   )
def BK (a0:ak) (b:Int):Option Bool:=xa a0 b F0 (0:Int)
theorem Vr {a0 j r}(b:BK a0 j=some r) (H:af) :At 209 [.agg (ak.c a0),.d (.int .i64 j)] H (RT (.a (.d (.bool r))) H):=by
 unfold BK at b;refine AC.oW 24 [.tmp 4] Tryz.call209 Tryz.func209 ?_;refine Y4 ?_;refine aO kN (fun(z:Unit)=>[]) (fun z=>H) (fun z=>FW =some r) ?_ ?_
 ·intro y k;refine Y4 ?_;refine bz (tl [1,2]) (fun(z:Nat×Int)=>[(5,.a (.d (.int .i64 z.2)))]) (fun z=>H) (fun z=>z.1) (fun z=>xa a0 j z.1 z.2=some r) (F0,(0:Int)) b wA ?_;rintro ⟨g,B⟩ b C l;cases g with
  | zero=>cases b
  | succ g =>
    rw [xa] at b;refine ar fun E m=>Y5 ?_;refine cE b (fun p b=>?_) (fun p b=>?_)
    ·refine sk m (ar fun F q=>Y5 ?_);obtain⟨G,s,b⟩:=bO b;refine aN.s0 (iV (f:=ah.c) (TK rfl) rfl (TK rfl) rfl rfl rfl s) rfl ?_;refine Y5 ?_;obtain⟨I,t,b⟩:=bO b;refine aN.s0 (iV (f:=ah.c) (TK rfl) rfl (TK rfl) rfl rfl rfl t) rfl ?_;refine Y4 ?_;refine cE b (fun u b=>?_) (fun u b=>?_)
     ·refine Y3 ?_;exact rt b
     refine sk q (Y2 ?_);obtain⟨v,w,b⟩:=bO b;refine S (fp w) (Y2 ?_);exact l _ (g,v) wA b (nS _)
    refine ag.exit ?_;exact k _ () wA b
 rintro _ b;unfold FW at b;refine Y3 ?_;exact rt b
def EJ (a0:ak) (b:Int):Option Bool:=BK a0 b
def jP (a0:ak) (j:Bs) (b:(ah×Bool)):List ah->Nat->(Sl Bs)->Option ((Sl Bs))
 | [],k,g=>some g
 | m::p,k,g=>bif b.2 then(on (m) fun f=>aZ (!(!decide (f.ai=(1:Int)))) (EJ a0 ((k:Nat):Int)) false fun q=>Option.bind (bif ((!decide (f.ai=(1:Int)))||(!q)) then(some g) else(on (bif (!((decide (b.1.ai=(1:Int)))&&((f.aa==j)))&&(decide (b.1.ai=(2:Int)))) then qH f.aM j else false) fun l=>on (bif (!(((decide (b.1.ai=(1:Int)))&&((f.aa==j)))||((decide (b.1.ai=(2:Int)))&&l))&&(decide (b.1.ai=(3:Int)))) then ve b.1 f.aa else false) fun r=>bif ((((decide (b.1.ai=(1:Int)))&&((f.aa==j)))||((decide (b.1.ai=(2:Int)))&&l))||((decide (b.1.ai=(3:Int)))&&r)) then((bh 16 g (⟨false,[f.aa]⟩:Sl Bs)).bind fun s=>some s) else(some g))) fun t=>jP a0 j b (p) (k+1) t) else(some g)
def zy (a0:ak) (b:Bs):Option (Sl Bs):=on (eR a0 b) fun f=>Option.bind (jP a0 b f a0.aj.l 0 (Sl.nil:Sl Bs)) fun g=>on (g) fun j=>some j
theorem Vs {a0 k r}(b:zy a0 k=some r) (H:af) :At 194 [.agg (ak.c a0),.d (.str k)] H (RT (.a (.d (Sl.d 1 aG none r))) H):=by
 unfold zy at b;refine AC.oW 81 [.tmp 4] Tryz.call194 Tryz.func194 ?_;refine ag.tok 1 fun f U=>?_;refine Y2 ?_;refine s0 (dM (k':=1) rfl) rfl ?_;refine Y4 ?_;refine ag.fe 5 1 f rfl az ?_;refine Y3 ?_;obtain⟨p,v,b⟩:=dQ b;refine Sc rfl rfl (mD v) (Y7 ?_);refine bC 6 _ rfl (kl [1,2,5,7]) ?_
 refine aO kN (fun(z:(Sl Bs))=>[(5,.a (.d (Sl.d 1 aG (some f) z)))]) (fun z=>(tS H f 1 z)) (fun z=>(some z)=some r) ?_ ?_
 ·intro W w;refine Y4 ?_;obtain⟨m,y,b⟩:=bZ b;refine bz (tl [1,2,6,7]) (fun(z:(Sl Bs)×Nat)=>[(5,.a (.d (Sl.d 1 aG (some f) z.1))),(8,vi z.2)]) (fun z=>(tS H f 1 z.1)) (fun z=>a0.aj.l.length-z.2) (fun z=>Option.bind (jP a0 k p (a0.aj.l.drop z.2) z.2 z.1) m=some r) ((Sl.nil:Sl Bs),0) b wA ?_;rintro ⟨g,j⟩ b X B;refine ar fun Y C=>Y4 ?_
  refine aU ah.c a0.aj fun Z=>Y5 ?_;refine ag.yR (fun l=>Option.bind (jP a0 k p l j g) m=some r) (Option.bind (some g) m=some r) b (fun b=>by rw [jP] at b; exact b) (fun _ E b=>by rw [jP] at b; rw [E] at b; exact b) rfl rfl (fun aa t u F b=>?_) (fun u b=>?_)
  ·rw [jP] at b;rw [F,cond_true] at b;have ab:=oD (and_left u);refine sk C (aO (tl [1,2,6,7,8]) (fun(z:(Sl Bs))=>[(5,.a (.d (Sl.d 1 aG (some f) z)))]) (fun z=>(tS H f 1 z)) (fun z=>Option.bind (jP a0 k p (a0.aj.l.drop (j+1)) (j+1) z) m=some r) ?_ ?_)
   ·intro ad q;refine Y5 ?_;obtain⟨ae,G,b⟩:=vO t b;refine S (ix ah.c j G) (Y4 ?_);refine bC 9 _ rfl (kl [1,2,5,6,7,8]) ?_;refine ar fun ai I=>Y7 ?_;obtain⟨al,J,b⟩:=fz b;refine fS 36 37 rfl rfl rfl rfl rfl rfl (fun hC=>Vr (J hC)) ?_;refine Gk 38 ?_;refine Y2 ?_;obtain⟨ao,s,b⟩:=dA b;refine cO b (fun K b=>?_) (fun K b=>?_)
    ·refine ag.exit ?_;exact q _ g wA (ku s b:)
    refine sk I (Y6 ?_);refine Gk 45 ?_;refine Y1 ?_;refine G2 46 47 rfl rfl BS ?_;refine Y7 ?_;refine Gk 52 ?_;refine Gk 53 ?_;refine Gk 54 ?_;refine Y1 ?_;refine Gk 56 ?_;refine Y1 ?_;obtain⟨ap,L,b⟩:=ee (fun _=>rfl) b;refine fS 57 58 rfl rfl rfl rfl rfl rfl (fun hC=>Eg (L hC)) ?_;refine bI 55 rfl (fun hC=>kI rfl rfl rfl) ?_;refine Y7 ?_;refine Gk 64 ?_;refine Gk 65 ?_;refine Gk 66 ?_
    refine Y2 ?_;refine Gk 69 ?_;obtain⟨aq,M,b⟩:=ee (fun _=>rfl) b;refine fS 68 70 rfl rfl rfl rfl rfl rfl (fun hC=>MK (M hC)) ?_;refine bI 67 rfl (fun hC=>kI rfl rfl rfl) ?_;refine Y6 ?_;refine cO b (fun N b=>?_) (fun N b=>?_)
    ·refine Y5 ?_;obtain⟨O,P,b⟩:=aJ b;refine SH (am aG (TK rfl) rfl (TK rfl) (TK rfl) P) ?_;refine Y2 ?_;exact q _ O wA (ku s b:)
    refine ag.skip ?_;exact q _ g wA (ku s b:)
   rintro Q b;refine Y5 ?_;exact B _ (Q,(j+1)) wA b (dl t)
  have b:=ku y b;refine ag.exit ?_;obtain⟨au,R,b⟩:=bW b;exact w _ g wA (ku R b:)
 rintro av b;refine Y4 ?_;refine ag.eF 4 rfl ?_;refine ry ?_;obtain rfl:=oJ b;refine bU.cH H rfl ⟨rfl,rfl⟩ ?_;exact sy
def tH (a0:ak) (f:Bs) (g:Bs):Option Bool:=(zy a0 g).bind fun x3=>on (qH x3 f) fun b=>some b
theorem Vt {a0 f g r}(b:tH a0 f g=some r) (H:af) :At 176 [.agg (ak.c a0),.d (.str f),.d (.str g)] H (RT (.a (.d (.bool r))) H):=by
 unfold tH at b;refine AC.oW 12 [.tmp 6] Tryz.call176 Tryz.func176 ?_;refine Y7 ?_;obtain⟨x3,j,b⟩:=aX b;refine Sc rfl rfl (Vs j) (Y1 ?_);obtain⟨l,k,b⟩:=dQ b;refine Sc rfl rfl (Eg k) (Y2 ?_);exact rt b
def kZ:Nat->ak->aL->aL->Option Bool
 | 0,_,_,_=>none
 | n+1,a0,b,f=>on (iz f) fun k=>bif k then(on (iz b) fun x7=>aZ (x7) (qV b) aL.zero fun l=>aZ (x7) (qV f) aL.zero fun m=>aZ (x7) ((kZ n) a0 l m) false fun p=>some (x7&&p)) else(on (iz b) fun q=>bif q then((qV b).bind fun r=>((kZ n) a0 r f).bind fun s=>some s) else((mQ b).bind fun g=>(mQ f).bind fun j=>bif (g.2&&j.2) then(((kZ n) a0 g.1 j.1).bind fun t=>some t) else(aZ ((((!g.2)&&(!j.2))&&!((b.aa==f.aa)))) (tH a0 b.aa f.aa) false fun u=>some (((!g.2)&&(!j.2))&&(((b.aa==f.aa))||u)))))
def FX (n:Nat):Prop:=∀{a0:ak}{a1:aL}{a2:aL}   {r:Bool},kZ n a0 a1 a2=some r->∀(H:af),At 141 [.agg (ak.c a0),.agg (aL.c a1),.agg (aL.c a2)] H (RT (.a (.d (.bool r))) H)
theorem Vu (n:Nat) (f:FX (au:=au) n):FX (au:=au) (n+1):=by
 intro a0 Y Z   r b H;rw [kZ] at b;refine AC.oW 69 [.tmp 6] Tryz.call141 Tryz.func141 ?_;refine Y6 ?_;refine ar fun I g=>Y2 ?_;obtain⟨J,j,b⟩:=dQ b;refine Sc rfl rfl (sM j) (Y1 ?_);refine cE b (fun l b=>?_) (fun l b=>?_)
 ·refine Y2 ?_;obtain⟨x7,m,b⟩:=dQ b;refine cF rfl rfl (sM m) (Y3 ?_);obtain⟨K,p,b⟩:=eB b;refine mB 17 rfl rfl rfl rfl rfl (fun hC=>Af (p hC)) ?_;refine Y1 ?_;obtain⟨L,q,b⟩:=eB b;refine mB 19 rfl rfl rfl rfl rfl (fun hC=>Af (q hC)) ?_;obtain⟨M,s,b⟩:=eB b
  refine aN.gC rfl rfl (fun hC=>j8 (k:=16) rfl (j8 (k:=18) rfl (j8 (k:=20) rfl (j6 rfl rfl (fun H=>f (s hC) H))))) rfl ?_;refine Y3 ?_;exact rt b
 refine sk g (ar fun N t=>Y2 ?_);obtain⟨O,u,b⟩:=dQ b;refine Sc rfl rfl (sM u) (Y1 ?_);refine cE b (fun v b=>?_) (fun v b=>?_)
 ·refine Y3 ?_;obtain⟨P,w,b⟩:=aX b;refine cF rfl rfl (Af w) (Y1 ?_);obtain⟨Q,y,b⟩:=aX b;refine cF rfl rfl (f y) (Y2 ?_);exact rt b
 refine sk t (Y2 ?_);obtain⟨R,z,b⟩:=aX b;refine Sc rfl rfl (FV z) (Y7 ?_);refine bC 7 _ rfl (kl [3,4,5,8]) ?_;refine Y2 ?_;obtain⟨S,B,b⟩:=aX b;refine Sc rfl rfl (FV B) (Y7 ?_);refine bC 9 _ rfl (kl [3,4,5,7,8,10]) ?_;refine ar fun U C=>Y6 ?_;refine cE b (fun E b=>?_) (fun E b=>?_)
 ·refine Y4 ?_;obtain⟨W,F,b⟩:=aX b;refine Sc rfl rfl (f F) (Y2 ?_);exact rt b
 refine sk C (Y5 ?_);refine Gk 51 ?_;refine Y3 ?_;refine Gk 55 ?_;refine Y1 ?_;refine Gk 57 ?_;refine G2 56 58 rfl rfl BS ?_;refine Gk 59 ?_;refine Y2 ?_;refine Gk 62 ?_;refine Y1 ?_;refine Gk 64 ?_;obtain⟨X,G,b⟩:=eB b;refine gC rfl rfl (fun hC=>j8 (k:=61) rfl (j8 (k:=63) rfl (j8 (k:=65) rfl (j6 rfl rfl (fun H=>Vt (G hC) H))))) rfl ?_
 refine bI 60 rfl (fun hC=>we rfl rfl rfl) ?_;refine Y3 ?_;exact rt b
theorem ML:∀(n:Nat),(FX (au:=au) n)
 | 0=>fun b=>by first|cases b|(rw [kZ] at b; cases b)
 | n+1=>Vu n (ML n)
def Vv (a0:ak) (b:aL) (f:aL):Option Bool:=kZ F0 a0 b f
theorem Vw {a0 b f r}(g:Vv a0 b f=some r) (H:af) :At 141 [.agg (ak.c a0),.agg (aL.c b),.agg (aL.c f)] H (RT (.a (.d (.bool r))) H):=(ML F0) g H 
def EM (a0:ak) (b:aL) (f:aL):Option Bool:=kZ F0 a0 b f
def mZ (j:Bs) (k:(Z6×Bool)):List Z7->(Sl Z5)->Option ((Sl Z5))
 | [],b=>some b
 | g::l,b=>on (g) fun m=>on (iZ k.1.ay m.aa) fun f=>on (bif !(!f.2) then g else Z7.zero) fun p=>aZ (!(!f.2)) (qI f.1.av p.av) false fun q=>Option.bind (bif ((!f.2)||(!q)) then((a_ j ([40]:Bs)).bind fun r=>on (g) fun s=>(a_ r s.aa).bind fun t=>(a_ t ([41]:Bs)).bind fun u=>(bh 24 b (⟨false,[(Z5.mk 22 u)]⟩:Sl Z5)).bind fun v=>some v) else(some b)) fun w=>mZ j k (l) w
def m_ (l:Z6) (j:Bs):List Z7->(Sl Z5)->Option ((Sl Z5))
 | [],b=>some b
 | f::m,b=>on (f) fun p=>on (iZ l.ay p.aa) fun g=>on (bif (!g.2) then f else Z7.zero) fun q=>on (bif (!g.2) then iz q.av else false) fun k=>on (bif ((!g.2)&&k) then f else Z7.zero) fun r=>Option.bind (bif (((!g.2)&&k)&&(!r.ck)) then((a_ j ([40]:Bs)).bind fun s=>on (f) fun t=>(a_ s t.aa).bind fun u=>(a_ u ([41]:Bs)).bind fun v=>(bh 24 b (⟨false,[(Z5.mk 22 v)]⟩:Sl Z5)).bind fun w=>some w) else(some b)) fun y=>m_ l j (m) y
def tJ (a0:ak) (j:ah) (b:Z6):Option (Sl Z5):=(a_ j.aa ([46]:Bs)).bind fun x3=>(a_ x3 b.aa).bind fun f=>on (nQ j b.aa) fun g=>bif (!g.2) then(some (⟨false,[(Z5.mk 20 f)]⟩:Sl Z5)) else((EM a0 g.1.av b.av).bind fun k=>Option.bind (bif (!k) then((bh 24 (Sl.nil:Sl Z5) (⟨false,[(Z5.mk 10 f)]⟩:Sl Z5)).bind fun m=>some m) else(some (Sl.nil:Sl Z5))) fun p=>Option.bind (mZ f g b.ay.l p) fun q=>on (q) fun r=>Option.bind (m_ b f g.1.ay.l r) fun s=>on (s) fun t=>some t)
theorem Vx {a0 K g r}(b:tJ a0 K g=some r) (H:af) :At 103 [.agg (ak.c a0),.agg (ah.c K),.agg (Z6.c g)] H (RT (.a (.d (Sl.d 2 Z5.c none r))) H):=by
 unfold tJ at b;refine AC.oW 148 [.tmp 6] Tryz.call103 Tryz.func103 ?_;refine ag.tok 2 fun f a4=>?_;refine Y4 ?_;refine s0 (dM (k':=2) rfl) rfl ?_;refine Y4 ?_;obtain⟨x3,L,b⟩:=aX b;refine S (bX L) (Y2 ?_);obtain⟨k,M,b⟩:=aX b;refine S (bX M) (Y6 ?_);obtain⟨j,N,b⟩:=dQ b;refine Sc rfl rfl (Ee N) (Y7 ?_);refine bC 8 _ rfl (kl [3,5,7,9]) ?_
 refine ar fun a5 O=>Y4 ?_;refine cE b (fun P b=>?_) (fun P b=>?_)
 ·refine Y6 ?_;refine ry ?_;obtain rfl:=oJ b;refine bU.cH H rfl ⟨rfl,rfl⟩ ?_;exact sy
 refine sk O (Y3 ?_);refine ag.fe 10 2 f rfl az ?_;refine aO (tl [5,7,8]) (fun(z:(Sl Z5))=>[(10,.a (.d (Sl.d 2 Z5.c (some f) z)))]) (fun z=>(tS H f 2 z)) (fun z=>(Option.bind (mZ k j g.ay.l z) fun q=>on (q) fun w=>Option.bind (m_ g k j.1.ay.l w) fun m=>on (m) fun u=>some u)=some r) ?_ ?_
 ·intro a6 C;refine Y6 ?_;obtain⟨a7,Q,b⟩:=aX b;refine Sc rfl rfl (Vw Q) (Y2 ?_);obtain⟨a8,E,b⟩:=bZ b;refine cO b (fun R b=>?_) (fun R b=>?_)
  ·refine Y5 ?_;obtain⟨U,W,b⟩:=aJ b;refine SH (am Z5.c (TK rfl) rfl (TK rfl) (TK rfl) W) ?_;refine Y2 ?_;exact C _ U wA (ku E b:)
  refine ag.skip ?_;exact C _ (Sl.nil:Sl Z5) wA (ku E b:)
 rintro X b;refine aO (tl [5,7,8]) (fun(z:(Sl Z5))=>[(10,.a (.d (Sl.d 2 Z5.c (some f) z)))]) (fun z=>(tS H f 2 z)) (fun z=>(Option.bind (m_ g k j.1.ay.l z) fun m=>on (m) fun u=>some u)=some r) ?_ ?_
 ·intro a9 Y;refine Y4 ?_;obtain⟨y,Z,b⟩:=bZ b;refine bz (tl [5,7,8]) (fun(z:(Sl Z5)×Nat)=>[(10,.a (.d (Sl.d 2 Z5.c (some f) z.1))),(11,vi z.2)]) (fun z=>(tS H f 2 z.1)) (fun z=>g.ay.l.length-z.2) (fun z=>Option.bind (mZ k j (g.ay.l.drop z.2) z.1) y=some r) (X,0) b wA ?_;rintro ⟨q,s⟩ b a_ aa;refine ar fun a' ab=>Y4 ?_
  refine aU Z7.c g.ay fun ba=>Y2 ?_;refine ag.bJ (fun l=>Option.bind (mZ k j l q) y=some r) b rfl (fun bb v ad b=>?_) (fun ad b=>?_)
  ·rw [mZ] at b;refine sk ab (aO (tl [5,7,8,11]) (fun(z:(Sl Z5))=>[(10,.a (.d (Sl.d 2 Z5.c (some f) z)))]) (fun z=>(tS H f 2 z)) (fun z=>Option.bind (mZ k j (g.ay.l.drop (s+1)) z) y=some r) ?_ ?_)
   ·intro bc F;refine Y7 ?_;obtain⟨bd,ae,b⟩:=vO v b;refine Sd (ix Z7.c s ae) (Y2 ?_);obtain⟨be,ai,b⟩:=eG b;refine cF rfl rfl (y8 ai) (Y7 ?_);refine bC 12 _ rfl (kl [5,7,8,10,11,13]) ?_;refine Y5 ?_;refine cm 69 ?_;refine Y1 ?_;refine cm 71 ?_;refine Y1 ?_;obtain⟨bf,aj,b⟩:=ee (fun _=>v) b;refine gq 72 73 rfl rfl (fun hC=>ix Z7.c s (aj hC)) ?_;refine cm 74 ?_
    refine cm 75 ?_;obtain⟨bg,al,b⟩:=fz b;refine sD 70 76 rfl rfl rfl rfl rfl rfl (fun hC=>Ei (al hC)) ?_;refine cm 77 ?_;refine Y2 ?_;obtain⟨bh,G,b⟩:=dA b;refine cO b (fun ao b=>?_) (fun ao b=>?_)
    ·refine Y3 ?_;obtain⟨bi,ap,b⟩:=aJ b;refine S (bX ap) (Y3 ?_);obtain⟨bj,aq,b⟩:=vO v b;refine S (ix Z7.c s aq) (Y2 ?_);obtain⟨bk,au,b⟩:=aJ b;refine S (bX au) ?_;obtain⟨bl,av,b⟩:=aJ b;refine S (bX av) (Y2 ?_);obtain⟨aw,ax,b⟩:=aJ b;refine SH (am Z5.c (TK rfl) rfl (TK rfl) (TK rfl) ax) ?_;refine Y2 ?_;exact F _ aw wA (ku G b:)
    refine ag.skip ?_;exact F _ q wA (ku G b:)
   rintro aA b;refine Y5 ?_;exact aa _ (aA,(s+1)) wA b (dl v)
  rw [mZ] at b;have b:=ku Z b;refine ag.exit ?_;obtain⟨bm,aB,b⟩:=bW b;exact Y _ q wA (ku aB b:)
 rintro w b;refine aO kN (fun(z:(Sl Z5))=>[(10,.a (.d (Sl.d 2 Z5.c (some f) z)))]) (fun z=>(tS H f 2 z)) (fun z=>(some z)=some r) ?_ ?_
 ·intro bn aC;refine Y4 ?_;obtain⟨B,aD,b⟩:=bZ b;refine bz (tl [5,7,8]) (fun(z:(Sl Z5)×Nat)=>[(10,.a (.d (Sl.d 2 Z5.c (some f) z.1))),(14,vi z.2)]) (fun z=>(tS H f 2 z.1)) (fun z=>j.1.ay.l.length-z.2) (fun z=>Option.bind (m_ g k (j.1.ay.l.drop z.2) z.1) B=some r) (w,0) b wA ?_;rintro ⟨m,p⟩ b bo aE;refine ar fun bp aF=>Y4 ?_
  refine aU Z7.c j.1.ay fun bq=>Y2 ?_;refine ag.bJ (fun l=>Option.bind (m_ g k l m) B=some r) b rfl (fun br t aG b=>?_) (fun aG b=>?_)
  ·rw [m_] at b;refine sk aF (aO (tl [5,7,8,14]) (fun(z:(Sl Z5))=>[(10,.a (.d (Sl.d 2 Z5.c (some f) z)))]) (fun z=>(tS H f 2 z)) (fun z=>Option.bind (m_ g k (j.1.ay.l.drop (p+1)) z) B=some r) ?_ ?_)
   ·intro bs I;refine Y7 ?_;obtain⟨bt,aH,b⟩:=vO t b;refine Sd (ix Z7.c p aH) (Y2 ?_);obtain⟨bu,aI,b⟩:=eG b;refine cF rfl rfl (y8 aI) (Y7 ?_);refine bC 15 _ rfl (kl [5,7,8,10,14,16]) ?_;refine Y5 ?_;refine Gk 116 ?_;refine Y1 ?_;obtain⟨bv,aL,b⟩:=ee (fun _=>t) b;refine fJ 117 118 rfl rfl (fun hC=>ix Z7.c p (aL hC)) ?_;refine Gk 119 ?_;refine Gk 120 ?_
    obtain⟨bw,aM,b⟩:=ee (fun _=>rfl) b;refine dP 121 rfl rfl rfl rfl rfl (fun hC=>sM (aM hC)) ?_;refine Y3 ?_;refine Gk 125 ?_;refine Y1 ?_;obtain⟨bx,aP,b⟩:=ee (fun _=>t) b;refine fJ 126 127 rfl rfl (fun hC=>ix Z7.c p (aP hC)) ?_;refine Gk 128 ?_;refine Gk 129 ?_;refine Gk 130 ?_;refine Y2 ?_;obtain⟨bA,J,b⟩:=dA b;refine cO b (fun aR b=>?_) (fun aR b=>?_)
    ·refine Y3 ?_;obtain⟨bB,aS,b⟩:=aJ b;refine S (bX aS) (Y3 ?_);obtain⟨bD,aV,b⟩:=vO t b;refine S (ix Z7.c p aV) (Y2 ?_);obtain⟨bF,aW,b⟩:=aJ b;refine S (bX aW) ?_;obtain⟨bG,aY,b⟩:=aJ b;refine S (bX aY) (Y2 ?_);obtain⟨aZ,a1,b⟩:=aJ b;refine SH (am Z5.c (TK rfl) rfl (TK rfl) (TK rfl) a1) ?_;refine Y2 ?_;exact I _ aZ wA (ku J b:)
    refine ag.skip ?_;exact I _ m wA (ku J b:)
   rintro a2 b;refine Y5 ?_;exact aE _ (a2,(p+1)) wA b (dl t)
  rw [m_] at b;have b:=ku aD b;refine ag.exit ?_;obtain⟨bH,a3,b⟩:=bW b;exact aC _ m wA (ku a3 b:)
 rintro u b;refine Y4 ?_;refine ag.eF 6 rfl ?_;refine ry ?_;obtain rfl:=oJ b;refine bU.cH H rfl ⟨rfl,rfl⟩ ?_;exact sy
def nc (a0:ak) (f:ah):List Z6->(Sl Z5)->Option ((Sl Z5))
 | [],b=>some b
 | g::j,b=>on (g) fun k=>(tJ a0 f k).bind fun l=>(bh 24 b l).bind fun m=>nc a0 f (j) m
def ov (a0:ak) (f:ah):List Bs->Nat->(Sl Z5)->Option ((Sl Z5))
 | [],j,g=>some g
 | k::p,j,g=>on (k) fun q=>on (wI a0 q (2:Int)) fun b=>on (bif (decide (b=(0:Int))) then(⟨f.aM.nl,f.aM.l.take j⟩:Sl Bs) else(Sl.nil:Sl Bs)) fun r=>on (bif (decide (b=(0:Int))) then k else([]:Bs)) fun s=>on (bif (decide (b=(0:Int))) then qH r s else false) fun t=>on (bif ((decide (b=(0:Int)))&&t) then((7:Int)) else(b)) fun m=>Option.bind (bif (!decide (m=(0:Int))) then((bh 24 g (⟨false,[(Z5.mk m f.aa)]⟩:Sl Z5)).bind fun u=>some u) else(on (k) fun v=>on (eR a0 v) fun w=>Option.bind (nc a0 f w.1.aq.l g) fun y=>some y)) fun z=>ov a0 f (p) (j+1) z
def BT (a0:ak) (b:ah):Option (Sl Z5):=Option.bind (ov a0 b b.aM.l 0 (Sl.nil:Sl Z5)) fun f=>on (f) fun g=>some g
theorem Vy {a0 g r}(b:BT a0 g=some r) (H:af) :At 58 [.agg (ak.c a0),.agg (ah.c g)] H (RT (.a (.d (Sl.d 2 Z5.c none r))) H):=by
 unfold BT at b;refine AC.oW 76 [.tmp 4] Tryz.call58 Tryz.func58 ?_;refine ag.tok 2 fun j aB=>?_;refine Y3 ?_;refine s0 (dM (k':=2) rfl) rfl ?_;refine Y4 ?_;refine ag.fe 5 2 j rfl az ?_;refine aO kN (fun(z:(Sl Z5))=>[(5,.a (.d (Sl.d 2 Z5.c (some j) z)))]) (fun z=>(tS H j 2 z)) (fun z=>(some z)=some r) ?_ ?_
 ·intro aC K;refine Y4 ?_;obtain⟨q,L,b⟩:=bZ b;refine bz (tl [2,3]) (fun(z:(Sl Z5)×Nat)=>[(5,.a (.d (Sl.d 2 Z5.c (some j) z.1))),(6,vi z.2)]) (fun z=>(tS H j 2 z.1)) (fun z=>g.aM.l.length-z.2) (fun z=>Option.bind (ov a0 g (g.aM.l.drop z.2) z.2 z.1) q=some r) ((Sl.nil:Sl Z5),0) b wA ?_;rintro ⟨m,k⟩ b aD M;refine ar fun aE N=>Y4 ?_
  refine aU aG g.aM fun aF=>Y2 ?_;refine ag.bJ (fun l=>Option.bind (ov a0 g l k m) q=some r) b rfl (fun O s w b=>?_) (fun w b=>?_)
  ·rw [ov] at b;have aH:=oD w;refine sk N (aO (tl [2,3,6]) (fun(z:(Sl Z5))=>[(5,.a (.d (Sl.d 2 Z5.c (some j) z)))]) (fun z=>(tS H j 2 z)) (fun z=>Option.bind (ov a0 g (g.aM.l.drop (k+1)) (k+1) z) q=some r) ?_ ?_)
   ·intro aI y;refine Y6 ?_;obtain⟨aL,P,b⟩:=vO s b;refine Sd (ix aG k P) (Y1 ?_);obtain⟨R,S,b⟩:=eG b;refine cF rfl rfl (IN S) (Y2 ?_)
    refine aO (tl [2,3,5,6]) (fun(z:Int)=>[(7,.a (.d (.int .i64 z)))]) (fun z=>(tS H j 2 m)) (fun z=>Option.bind (Option.bind (bif (!decide (z=(0:Int))) then((bh 24 m (⟨false,[(Z5.mk z g.aa)]⟩:Sl Z5)).bind fun u=>some u) else(on (O) fun B=>on (eR a0 B) fun p=>Option.bind (nc a0 g p.1.aq.l m) fun t=>some t)) fun v=>ov a0 g (g.aM.l.drop (k+1)) (k+1) v) q=some r) ?_ ?_
    ·intro aP C;refine Y5 ?_;refine cm 28 ?_;refine Y1 ?_;obtain⟨aR,U,b⟩:=ee (fun _=>(Q.uP (by omega))) b;refine gq 29 30 rfl rfl (fun hC=>lN (f:=aG) (l:=none) (r:=(some ((k:Nat):Int))) (TK rfl) rfl (TK rfl) rfl rfl trivial rfl (U hC)) ?_;refine Y1 ?_;refine cm 32 ?_;refine Y1 ?_;obtain⟨aS,W,b⟩:=ee (fun _=>s) b;refine gq 33 34 rfl rfl (fun hC=>ix aG k (W hC)) ?_
     refine cm 35 ?_;obtain⟨aV,X,b⟩:=ee (fun _=>rfl) b;refine sD 31 36 rfl rfl rfl rfl rfl rfl (fun hC=>Eg (X hC)) ?_;refine Y2 ?_;obtain⟨aW,E,b⟩:=iy b;refine cP b (fun Y b=>?_) (fun Y b=>?_)
     ·refine Y3 ?_;exact C _ (7:Int) wA (ku E b:)
     refine ag.skip ?_;exact C _ R wA (ku E b:)
    rintro aX b;refine ar fun aY Z=>Y4 ?_;obtain⟨aZ,F,b⟩:=dA b;refine cO b (fun ab b=>?_) (fun ab b=>?_)
    ·refine Y7 ?_;obtain⟨u,ad,b⟩:=aJ b;refine SH (am Z5.c (TK rfl) rfl (TK rfl) (TK rfl) ad) ?_;refine Y2 ?_;refine ag.exit ?_;exact y _ u wA (ku F b:)
    refine sk Z (Y5 ?_);obtain⟨B,ae,b⟩:=vO s b;refine Sd (ix aG k ae) (Y1 ?_);obtain⟨p,ai,b⟩:=eG b;refine cF rfl rfl (mD ai) (Y7 ?_);refine bC 8 _ rfl (kl [2,3,5,6]) ?_;refine Y4 ?_;obtain⟨G,aj,b⟩:=dA b
    refine bz (tl [2,3,6,8]) (fun(z:(Sl Z5)×Nat)=>[(5,.a (.d (Sl.d 2 Z5.c (some j) z.1))),(10,vi z.2)]) (fun z=>(tS H j 2 z.1)) (fun z=>p.1.aq.l.length-z.2) (fun z=>Option.bind (nc a0 g (p.1.aq.l.drop z.2) z.1) G=some r) (m,0) b wA ?_;rintro ⟨t,I⟩ b a1 al;refine ar fun a2 ao=>Y4 ?_;refine aU Z6.c p.1.aq fun a3=>Y2 ?_
    refine ag.bJ (fun l=>Option.bind (nc a0 g l t) G=some r) b rfl (fun a4 J ap b=>?_) (fun ap b=>?_)
    ·rw [nc] at b;refine sk ao (ar fun a5 au=>Y1 ?_);refine ag.draw rfl ?_;refine Y6 ?_;obtain⟨a6,av,b⟩:=vO J b;refine Sd (ix Z6.c I av) (Y1 ?_);obtain⟨a7,aw,b⟩:=aJ b;refine cF rfl rfl (Vx aw) ?_;obtain⟨ax,ay,b⟩:=aJ b;refine aN.sH (jy (f:=Z5.c) (TK rfl) rfl (TK rfl) (TK rfl) ⟨_,rfl⟩ rfl rfl (by decide) rfl rfl rfl rfl az rfl ay) rfl ?_;refine Y2 ?_
     refine au _ ?_;refine Y5 ?_;exact al _ (ax,(I+1)) wA b (dl J)
    rw [nc] at b;have b:=ku aj b;refine ag.exit ?_;exact y _ t wA (ku F b:)
   rintro v b;refine Y5 ?_;exact M _ (v,(k+1)) wA b (dl s)
  rw [ov] at b;have b:=ku L b;refine ag.exit ?_;obtain⟨a8,aA,b⟩:=bW b;exact K _ m wA (ku aA b:)
 rintro a9 b;refine Y4 ?_;refine ag.eF 4 rfl ?_;refine ry ?_;obtain rfl:=oJ b;refine bU.cH H rfl ⟨rfl,rfl⟩ ?_;exact sy
def ow (a0:ak) (g:ah):List Z8->Nat->(Sl Z5)->Option ((Sl Z5))
 | [],j,b=>some b
 | p::q,j,b=>on (p) fun k=>on (wI a0 k.aa (1:Int)) fun f=>on (bif (decide (f=(0:Int))) then(⟨g.ax.nl,g.ax.l.take j⟩:Sl Z8) else(Sl.nil:Sl Z8)) fun r=>on (bif (decide (f=(0:Int))) then ve (ah.mk 0 [] Sl.nil Sl.nil Sl.nil r Sl.nil) k.aa else false) fun s=>on (bif ((decide (f=(0:Int)))&&s) then((7:Int)) else(f)) fun m=>Option.bind (bif (!decide (m=(0:Int))) then((a_ g.aa ([46]:Bs)).bind fun t=>(a_ t k.aa).bind fun u=>(bh 24 b (⟨false,[(Z5.mk m u)]⟩:Sl Z5)).bind fun v=>some v) else(some b)) fun w=>ow a0 g (q) (j+1) w
def BR (a0:ak) (b:ah):Option (Sl Z5):=Option.bind (ow a0 b b.ax.l 0 (Sl.nil:Sl Z5)) fun f=>on (f) fun g=>some g
theorem Vz {a0 g r}(b:BR a0 g=some r) (H:af) :At 59 [.agg (ak.c a0),.agg (ah.c g)] H (RT (.a (.d (Sl.d 2 Z5.c none r))) H):=by
 unfold BR at b;refine AC.oW 49 [.tmp 4] Tryz.call59 Tryz.func59 ?_;refine ag.tok 2 fun j ab=>?_;refine Y3 ?_;refine s0 (dM (k':=2) rfl) rfl ?_;refine Y4 ?_;refine ag.fe 5 2 j rfl az ?_;refine aO kN (fun(z:(Sl Z5))=>[(5,.a (.d (Sl.d 2 Z5.c (some j) z)))]) (fun z=>(tS H j 2 z)) (fun z=>(some z)=some r) ?_ ?_
 ·intro ad F;refine Y4 ?_;obtain⟨p,G,b⟩:=bZ b;refine bz (tl [2,3]) (fun(z:(Sl Z5)×Nat)=>[(5,.a (.d (Sl.d 2 Z5.c (some j) z.1))),(6,vi z.2)]) (fun z=>(tS H j 2 z.1)) (fun z=>g.ax.l.length-z.2) (fun z=>Option.bind (ow a0 g (g.ax.l.drop z.2) z.2 z.1) p=some r) ((Sl.nil:Sl Z5),0) b wA ?_;rintro ⟨m,k⟩ b ae I;refine ar fun ai J=>Y4 ?_
  refine aU Z8.c g.ax fun aj=>Y2 ?_;refine ag.bJ (fun l=>Option.bind (ow a0 g l k m) p=some r) b rfl (fun al t u b=>?_) (fun u b=>?_)
  ·rw [ow] at b;have ao:=oD u;refine sk J (aO (tl [2,3,6]) (fun(z:(Sl Z5))=>[(5,.a (.d (Sl.d 2 Z5.c (some j) z)))]) (fun z=>(tS H j 2 z)) (fun z=>Option.bind (ow a0 g (g.ax.l.drop (k+1)) (k+1) z) p=some r) ?_ ?_)
   ·intro ap v;refine Y5 ?_;obtain⟨K,L,b⟩:=vO t b;refine S (ix Z8.c k L) (Y7 ?_);obtain⟨M,N,b⟩:=eG b;refine Sc rfl rfl (IN N) (Y2 ?_)
    refine aO (tl [2,3,5,6,7]) (fun(z:Int)=>[(8,.a (.d (.int .i64 z)))]) (fun z=>(tS H j 2 m)) (fun z=>Option.bind (Option.bind (bif (!decide (z=(0:Int))) then((a_ g.aa ([46]:Bs)).bind fun w=>(a_ w K.aa).bind fun y=>(bh 24 m (⟨false,[(Z5.mk z y)]⟩:Sl Z5)).bind fun q=>some q) else(some m)) fun s=>ow a0 g (g.ax.l.drop (k+1)) (k+1) s) p=some r) ?_ ?_
    ·intro aq B;refine Y5 ?_;refine Gk 28 ?_;refine Y1 ?_;obtain⟨au,O,b⟩:=ee (fun _=>(Q.uP (by omega))) b;refine fJ 29 30 rfl rfl (fun hC=>lN (f:=Z8.c) (l:=none) (r:=(some ((k:Nat):Int))) (TK rfl) rfl (TK rfl) rfl rfl trivial rfl (O hC)) ?_;refine Gk 31 ?_;refine Y1 ?_;obtain⟨av,P,b⟩:=ee (fun _=>rfl) b;refine fS 32 33 rfl rfl rfl rfl rfl rfl (fun hC=>MK (P hC)) ?_;refine Y2 ?_
     obtain⟨aw,C,b⟩:=iy b;refine cP b (fun R b=>?_) (fun R b=>?_)
     ·refine Y3 ?_;exact B _ (7:Int) wA (ku C b:)
     refine ag.skip ?_;exact B _ M wA (ku C b:)
    rintro ay b;refine Y4 ?_;obtain⟨aA,E,b⟩:=dA b;refine cO b (fun U b=>?_) (fun U b=>?_)
    ·refine Y5 ?_;obtain⟨w,W,b⟩:=aJ b;refine S (bX W) (Y1 ?_);obtain⟨y,X,b⟩:=aJ b;refine S (bX X) (Y2 ?_);obtain⟨q,Y,b⟩:=aJ b;refine SH (am Z5.c (TK rfl) rfl (TK rfl) (TK rfl) Y) ?_;refine Y2 ?_;exact v _ q wA (ku E b:)
    refine ag.skip ?_;exact v _ m wA (ku E b:)
   rintro s b;refine Y5 ?_;exact I _ (s,(k+1)) wA b (dl t)
  rw [ow] at b;have b:=ku G b;refine ag.exit ?_;obtain⟨aB,Z,b⟩:=bW b;exact F _ m wA (ku Z b:)
 rintro aC b;refine Y4 ?_;refine ag.eF 4 rfl ?_;refine ry ?_;obtain rfl:=oJ b;refine bU.cH H rfl ⟨rfl,rfl⟩ ?_;exact sy
def p4 (a0:ak):List ah->(Sl Z5)->Option ((Sl Z5))
 | [],b=>some b
 | f::j,b=>on (f) fun g=>Option.bind (bif (decide (g.ai=(1:Int))) then(on (f) fun k=>(BT a0 k).bind fun l=>(bh 24 b l).bind fun m=>some m) else(bif (decide (g.ai=(3:Int))) then(on (f) fun p=>(BR a0 p).bind fun q=>(bh 24 b q).bind fun r=>some r) else(some b))) fun s=>p4 a0 (j) s
def zF (a0:ak):Option (Sl Z5):=Option.bind (p4 a0 a0.aj.l (Sl.nil:Sl Z5)) fun b=>on (b) fun f=>some f
theorem VA {a0 r}(b:zF a0=some r) (H:af) :At 26 [.agg (ak.c a0)] H (RT (.a (.d (Sl.d 2 Z5.c none r))) H):=by
 unfold zF at b;refine AC.oW 41 [.tmp 2] Tryz.call26 Tryz.func26 ?_;refine ag.tok 2 fun g Q=>?_;refine Y2 ?_;refine s0 (dM (k':=2) rfl) rfl ?_;refine Y4 ?_;refine ag.fe 3 2 g rfl az ?_;refine aO kN (fun(z:(Sl Z5))=>[(3,.a (.d (Sl.d 2 Z5.c (some g) z)))]) (fun z=>(tS H g 2 z)) (fun z=>(some z)=some r) ?_ ?_
 ·intro R t;refine Y4 ?_;obtain⟨m,u,b⟩:=bZ b;refine bz (tl [1]) (fun(z:(Sl Z5)×Nat)=>[(3,.a (.d (Sl.d 2 Z5.c (some g) z.1))),(4,vi z.2)]) (fun z=>(tS H g 2 z.1)) (fun z=>a0.aj.l.length-z.2) (fun z=>Option.bind (p4 a0 (a0.aj.l.drop z.2) z.1) m=some r) ((Sl.nil:Sl Z5),0) b wA ?_;rintro ⟨p,j⟩ b U v;refine ar fun W w=>Y4 ?_;refine aU ah.c a0.aj fun X=>Y2 ?_
  refine ag.bJ (fun l=>Option.bind (p4 a0 l p) m=some r) b rfl (fun Y k y b=>?_) (fun y b=>?_)
  ·rw [p4] at b;refine sk w (aO (tl [1,4]) (fun(z:(Sl Z5))=>[(3,.a (.d (Sl.d 2 Z5.c (some g) z)))]) (fun z=>(tS H g 2 z)) (fun z=>Option.bind (p4 a0 (a0.aj.l.drop (j+1)) z) m=some r) ?_ ?_)
   ·intro Z q;refine Y5 ?_;obtain⟨aa,B,b⟩:=vO k b;refine S (ix ah.c j B) (Y8 ?_);obtain⟨ab,s,b⟩:=dA b;refine cO b (fun C b=>?_) (fun C b=>?_)
    ·refine ag.draw rfl ?_;refine Y5 ?_;obtain⟨ad,E,b⟩:=vO k b;refine Sd (ix ah.c j E) (Y1 ?_);obtain⟨ae,F,b⟩:=aJ b;refine cF rfl rfl (Vy F) ?_;obtain⟨G,I,b⟩:=aJ b;refine aN.sH (jy (f:=Z5.c) (TK rfl) rfl (TK rfl) (TK rfl) ⟨_,rfl⟩ rfl rfl (by decide) rfl rfl rfl rfl az rfl I) rfl ?_;refine Y2 ?_;exact q _ G wA (ku s b:)
    refine Y4 ?_;refine cO b (fun J b=>?_) (fun J b=>?_)
    ·refine ag.draw rfl ?_;refine Y5 ?_;obtain⟨ai,K,b⟩:=vO k b;refine Sd (ix ah.c j K) (Y1 ?_);obtain⟨al,L,b⟩:=aJ b;refine cF rfl rfl (Vz L) ?_;obtain⟨M,N,b⟩:=aJ b;refine aN.sH (jy (f:=Z5.c) (TK rfl) rfl (TK rfl) (TK rfl) ⟨_,rfl⟩ rfl rfl (by decide) rfl rfl rfl rfl az rfl N) rfl ?_;refine Y2 ?_;exact q _ M wA (ku s b:)
    refine ag.skip ?_;exact q _ p wA (ku s b:)
   rintro O b;refine Y5 ?_;exact v _ (O,(j+1)) wA b (dl k)
  rw [p4] at b;have b:=ku u b;refine ag.exit ?_;obtain⟨am,P,b⟩:=bW b;exact t _ p wA (ku P b:)
 rintro ao b;refine Y4 ?_;refine ag.eF 2 rfl ?_;refine ry ?_;obtain rfl:=oJ b;refine bU.cH H rfl ⟨rfl,rfl⟩ ?_;exact sy
def oz (f:Z9->Option Z9):List Z9->(Sl Z9)->Option ((Sl Z9))
 | [],b=>some b
 | g::j,b=>on (g) fun k=>(f k).bind fun l=>(bh 80 b (⟨false,[l]⟩:Sl Z9)).bind fun m=>oz f (j) m
mutual
def kw:Nat->Z9->Option Z9
 | 0,_=>none
 | n+1,a0=>((vh n) a0.aB).bind fun x3=>(bh 16 (⟨false,[]⟩:Sl Bs) a0.aR).bind fun b=>some (Z9.mk a0.ai a0.bA a0.bp x3.nl x3.l b)
def vh:Nat->(Sl Z9)->Option (Sl Z9)
 | 0,_=>none
 | n+1,a0=>Option.bind (oz (kw n) a0.l (Sl.nil:Sl Z9)) fun b=>on (b) fun f=>some f
end
def CE (n:Nat):Prop:=∀{a0:Z9}   {r:Z9},kw n a0=some r->∀(H:af),At 195 [.agg (Z9.c a0)] H (RT (.a (.agg (Z9.c r))) H)
def CF (n:Nat):Prop:=∀{a0:(Sl Z9)}{w0:Option Nat}  {r:(Sl Z9)},vh n a0=some r->∀(H:af),At 210 [.d (Sl.d 5 Z9.c w0 a0)] H (RT (.a (.d (Sl.d 5 Z9.c none r))) H)
theorem VB (n:Nat) (s:CE (au:=au) n) (g:CF (au:=au) n):CE (au:=au) (n+1):=by
 intro a0   r b H;rw [kw] at b;refine AC.oW 17 [.cell 2 72] Tryz.call195 Tryz.func195 ?_;refine yU ?_;refine aN.s0 (dK (TK rfl) rfl rfl (Z9.ej _)) rfl ?_;obtain⟨x3,k,b⟩:=aX b;refine cF rfl rfl (g k) (aN.s0 (uE (TK rfl) rfl (TK rfl) rfl rfl rfl rfl rfl rfl) rfl ?_);refine Y2 ?_;obtain⟨m,p,b⟩:=aX b
 refine aN.s0 (yN (f:=aG) (TK rfl) rfl (TK rfl) (TK rfl) ⟨_,rfl⟩ rfl rfl (by decide) rfl rfl rfl (by intro q h; cases h<;>decide) rfl rfl p) rfl ?_;refine Y3 ?_;refine ag.cU 0 (Z9.c (Z9.mk a0.ai a0.bA a0.bp x3.nl x3.l m)) rfl (fun j w cs hh hx=>by rw [Z9.mC]; exact hx) ?_;exact rt b
theorem VC (n:Nat) (p:CE (au:=au) n) (G:CF (au:=au) n):CF (au:=au) (n+1):=by
 intro a0 w0  r b H;rw [vh] at b;refine AC.oW 20 [.tmp 2] Tryz.call210 Tryz.func210 ?_;refine ag.tok 5 fun f I=>?_;refine Y1 ?_;refine s0 (dM (k':=5) rfl) rfl ?_;refine Y4 ?_;refine ag.fe 3 5 f rfl az ?_;refine aO kN (fun(z:(Sl Z9))=>[(3,.a (.d (Sl.d 5 Z9.c (some f) z)))]) (fun z=>(tS H f 5 z)) (fun z=>(some z)=some r) ?_ ?_
 ·intro J q;refine Y4 ?_;obtain⟨g,s,b⟩:=bZ b;refine bz (tl [0]) (fun(z:(Sl Z9)×Nat)=>[(3,.a (.d (Sl.d 5 Z9.c (some f) z.1))),(4,vi z.2)]) (fun z=>(tS H f 5 z.1)) (fun z=>a0.l.length-z.2) (fun z=>Option.bind (oz (kw n) (a0.l.drop z.2) z.1) g=some r) ((Sl.nil:Sl Z9),0) b wA ?_;rintro ⟨j,k⟩ b K t;refine ar fun L u=>Y3 ?_;refine aU Z9.c a0 fun M=>Y2 ?_
  refine ag.bJ (fun l=>Option.bind (oz (kw n) l j) g=some r) b rfl (fun N m v b=>?_) (fun v b=>?_)
  ·rw [oz] at b;refine sk u (ar fun O w=>Y5 ?_);obtain⟨P,y,b⟩:=vO m b;refine S (ix Z9.c k y) (Y1 ?_);obtain⟨Q,B,b⟩:=aJ b;refine Sc rfl rfl (p B) (Y1 ?_);obtain⟨C,E,b⟩:=aJ b;refine SH (am Z9.c (TK rfl) rfl (TK rfl) (TK rfl) E) ?_;refine Y2 ?_;refine w _ ?_;refine Y5 ?_;exact t _ (C,(k+1)) wA b (dl m)
  rw [oz] at b;have b:=ku s b;refine ag.exit ?_;obtain⟨R,F,b⟩:=bW b;exact q _ j wA (ku F b:)
 rintro U b;refine Y4 ?_;refine ag.eF 2 rfl ?_;refine ry ?_;obtain rfl:=oJ b;refine bU.cH H rfl ⟨rfl,rfl⟩ ?_;exact sy
theorem Ag:∀(n:Nat),(CE (au:=au) n)/\(CF (au:=au) n)
 | 0=>⟨fun b=>by first|cases b|(rw [kw] at b; cases b),fun b=>by first|cases b|(rw [vh] at b; cases b)⟩
 | n+1=>⟨VB n (Ag n).1 (Ag n).2,VC n (Ag n).1 (Ag n).2⟩
def VD (a0:Z9):Option Z9:=kw F0 a0
theorem VE {a0 r}(b:VD a0=some r) (H:af) :At 195 [.agg (Z9.c a0)] H (RT (.a (.agg (Z9.c r))) H):=(Ag F0).1 b H 
def EY (a0:Z9):Option Z9:=kw F0 a0
def kA (a0:Z9) (f:Bs):List Bs->Nat->Option (Unit ⊕ ((Z9×Bool)))
 | [],b=>some (Sum.inl ())
 | g::j,b=>on (g) fun k=>bif ((k==f)) then(bif (decide (((a0.aB.l.length:Nat):Int)<=((b:Nat):Int))) then(some (Sum.inr ((Z9.mk 0 0 [] true [] Sl.nil),false))) else((a0.aB.l[b]?).bind fun m=>(EY m).bind fun p=>some (Sum.inr (p,true)))) else(kA a0 f (j) (b+1) )
def nj (a0:Z9) (g:Bs):Option (Z9×Bool):=bif (!decide (a0.ai=(6:Int))) then(some ((Z9.mk 0 0 [] true [] Sl.nil),false)) else(Option.bind (kA a0 g a0.aR.l 0 ) fun b=>match b with|Sum.inl _=>(on (()) fun _=>some ((Z9.mk 0 0 [] true [] Sl.nil),false))|Sum.inr f=>(some f))
theorem FY {a0 g r}(b:nj a0 g=some r) (H:af) :At 177 [.agg (Z9.c a0),.d (.str g)] H (RT (.cL [.agg (Z9.c r.1),.d (.bool r.2)]) H):=by
 unfold nj at b;refine AC.oW 38 [.cell 4 72,.tmp 5] Tryz.call177 Tryz.func177 ?_;refine Y5 ?_;refine ar fun K q=>Y5 ?_;refine cE b (fun s b=>?_) (fun s b=>?_)
 ·refine Y5 ?_;exact rt b
 refine sk q (dS (tl [4]) (fun(z:Z9)=>[]) (fun z=>[Z9.c z]) (fun z=>H) (fun z=>(some ((Z9.mk 0 0 [] true [] Sl.nil),false))=some r) ?_ ?_)
 ·intro L t;refine Y4 ?_;obtain⟨k,j,b⟩:=bZ b;refine gz (tl [1,2,4]) (fun(z:Nat×Z9)=>[(6,vi z.1)]) (fun z=>[Z9.c z.2]) (fun z=>H) (fun z=>a0.aR.l.length-z.1) (fun z=>Option.bind (kA a0 g (a0.aR.l.drop z.1) z.1 ) k=some r) (0,Z9.zero) b wA ?_;rintro ⟨f,m⟩ b M u;refine ar fun N v=>Y4 ?_;refine aU aG a0.aR fun O=>Y2 ?_
  refine ag.bJ (fun l=>Option.bind (kA a0 g l f ) k=some r) b rfl (fun P p w b=>?_) (fun w b=>?_)
  ·rw [kA] at b;refine sk v (ar fun Q y=>Y5 ?_);obtain⟨R,B,b⟩:=vO p b;refine S (ix aG f B) (Y4 ?_);refine cO b (fun C b=>?_) (fun C b=>?_)
   ·refine ar fun U E=>Y3 ?_;refine s0 (dK (TK rfl) rfl rfl (Z9.ej _)) rfl ?_;refine aU Z9.c a0.aB fun W=>Y2 ?_;refine cO b (fun F b=>?_) (fun F b=>?_)
    ·refine Y5 ?_;exact rs (ku j b:)
    refine sk E (Y2 ?_);refine s0 (dK (TK rfl) rfl rfl (Z9.ej _)) rfl ?_;refine Y1 ?_;obtain⟨X,G,b⟩:=aJ b;refine S (ix Z9.c f G) (Y1 ?_);obtain⟨Y,I,b⟩:=aJ b;refine Sc rfl rfl (VE I) (Y3 ?_);exact rs (ku j b:)
   refine sk y (Y5 ?_);exact u _ ((f+1),m) wA b (dl p)
  rw [kA] at b;have b:=ku j b;refine ag.exit ?_;obtain⟨Z,J,b⟩:=bW b;exact t _ m wA (ku J b:)
 rintro aa b;refine Y5 ?_;exact rt b
def q7 (a0:Z3) (b:Z9):Option Bool:=bif ((!a0.fK)||(!decide (b.ai=(7:Int)))) then(some false) else((nj a0.eY b.bp).bind fun x7=>some (!x7.2))
theorem MM {a0 f c0 r}(b:q7 a0 f=some r) (H:af) (b7:H c0=some (.cells (Z3.c a0))):At 142 [.d (.ptr c0 0),.agg (Z9.c f)] H (RT (.a (.d (.bool r))) H):=by
 unfold q7 at b;refine AC.oW 29 [.tmp 4] Tryz.call142 Tryz.func142 ?_;refine Y4 ?_;refine ar fun l g=>Y8 ?_;refine Gk 13 ?_;refine Gk 14 ?_;refine Y2 ?_;refine cE b (fun j b=>?_) (fun j b=>?_)
 ·refine Y3 ?_;exact rt b
 refine sk g (Y7 ?_);obtain⟨x7,k,b⟩:=aX b;refine cF rfl rfl (FY k) (Y7 ?_);refine bC 5 _ rfl (kl [6]) ?_;refine Y5 ?_;exact rt b
def fq (a0:Z3) (b:Int):Z3:=bif (decide (a0.dh=(0:Int))) then((Z3.mk a0.Fd a0.eY a0.fK a0.kL b)) else(a0)
theorem rJ {a0 f c0 r}(b:some (fq a0 f)=some r) (H:af) (b7:H c0=some (.cells (Z3.c a0))):At 196 [.d (.ptr c0 0),.d (.int .i64 f)] H (RT (.cL []) ((cS H c0 (Z3.c r)))):=by
 unfold fq at b;refine AC.oW 13 [] Tryz.call196 Tryz.func196 ?_;refine hz (cS H c0 (Z3.c a0)) (Y7 ?_);refine cP b (fun g b=>?_) (fun g b=>?_)
 ·refine Y5 ?_;refine dB (gw (TK rfl) rfl rfl az rfl (by repeat (first|exact bE.zero|apply bE.succ))) rfl rfl ?_;refine hq (H.set c0 (some (.cells (Z3.c (Z3.mk a0.Fd a0.eY a0.fK a0.kL f))))) (Y1 ?_);repeat (first|refine fQ ?_|refine fP ?_|refine fO ?_)
  obtain rfl:=oJ b;refine bU.gj (H.set c0 (some (.cells (Z3.c (Z3.mk a0.Fd a0.eY a0.fK a0.kL f))))) (xs:=[]) rfl ⟨rfl,rfl⟩ ?_;exact(fun _ _ h=>h)
 refine ag.skip ?_;repeat (first|refine fQ ?_|refine fP ?_|refine fO ?_)
 obtain rfl:=oJ b;refine bU.gj (cS H c0 (Z3.c a0)) (xs:=[]) rfl ⟨rfl,rfl⟩ ?_;exact(fun _ _ h=>h)
def l8 (a0:Z3) (j:Int):Option Z3:=on (bif (decide ((24:Int)<j)) then(on (fq a0 (5:Int)) fun g=>g) else(a0)) fun b=>(cN b.kL (1:Int)).bind fun f=>bif (decide ((4096:Int)<f)) then(on (fq (Z3.mk b.Fd b.eY b.fK f b.dh) (4:Int)) fun x7=>some x7) else(some (Z3.mk b.Fd b.eY b.fK f b.dh))
theorem MN {a0 k c0 r}(b:l8 a0 k=some r) (H:af) (b7:H c0=some (.cells (Z3.c a0))):At 198 [.d (.ptr c0 0),.d (.int .i64 k)] H (RT (.cL []) ((cS H c0 (Z3.c r)))):=by
 unfold l8 at b;refine AC.oW 22 [] Tryz.call198 Tryz.func198 ?_;refine hz (cS H c0 (Z3.c a0)) ?_;obtain⟨l,m,b⟩:=bW b;refine aO (tl [0]) (fun(z:Z3)=>[]) (fun z=>(cS H c0 (Z3.c z))) (fun z=>l z=some r) ?_ ?_
 ·intro w g;refine Y4 ?_;refine cP b (fun p b=>?_) (fun p b=>?_)
  ·refine Y2 ?_;obtain⟨q,s,b⟩:=ff b;refine sH (bV rfl rfl (rJ s _ az)) rfl ?_;refine Y1 ?_;exact g _ q wA b
  refine ag.skip ?_;exact g _ a0 wA b
 rintro f b;have b:=ku m b;refine Y5 ?_;obtain⟨j,t,b⟩:=aX b;refine S (fp t) (Y2 ?_);refine dB (gw (TK rfl) rfl rfl az rfl (by repeat (first|exact bE.zero|apply bE.succ))) rfl rfl ?_;refine hq (H.set c0 (some (.cells (Z3.c (Z3.mk f.Fd f.eY f.fK j f.dh))))) (Y8 ?_);refine cE b (fun u b=>?_) (fun u b=>?_)
 ·refine Y2 ?_;obtain⟨x7,v,b⟩:=dQ b;refine sH (bV rfl rfl (rJ v _ az)) rfl ?_;refine hq (cS H c0 (Z3.c x7)) (Y1 ?_);repeat (first|refine fQ ?_|refine fP ?_|refine fO ?_)
  obtain rfl:=oJ b;refine bU.gj (cS H c0 (Z3.c x7)) (xs:=[]) rfl ⟨rfl,rfl⟩ ?_;exact(fun _ _ h=>h)
 refine ag.skip ?_;repeat (first|refine fQ ?_|refine fP ?_|refine fO ?_)
 obtain rfl:=oJ b;refine bU.gj (H.set c0 (some (.cells (Z3.c (Z3.mk f.Fd f.eY f.fK j f.dh))))) (xs:=[]) rfl ⟨rfl,rfl⟩ ?_;exact(fun _ _ h=>h)
def ng (m:Int) (g:Z3->Z9->Int->Option (Z9×Z3)):List Z9->Z3->Z9->Option ((Z3×Z9))
 | [],f,b=>some (f,b)
 | p::q,f,b=>bif (decide (f.dh=(0:Int))) then(on (p) fun r=>(cN m (1:Int)).bind fun s=>(g f r s).bind fun j=>(bh 80 b.aB (⟨false,[j.1]⟩:Sl Z9)).bind fun k=>ng m g (q) j.2 (Z9.mk b.ai b.bA b.bp k.nl k.l b.aR)) else(some (f,b))
def ni:Nat->Z3->Z9->Int->Option (Z9×Z3)
 | 0,_,_,_=>none
 | n+1,a0,b,g=>(l8 a0 g).bind fun x3=>(bh 16 ((Z9.mk b.ai b.bA b.bp true [] Sl.nil).aR) b.aR).bind fun j=>Option.bind (ng g (ni n) b.aB.l x3 (Z9.mk ((Z9.mk b.ai b.bA b.bp true [] Sl.nil).ai) ((Z9.mk b.ai b.bA b.bp true [] Sl.nil).bA) ((Z9.mk b.ai b.bA b.bp true [] Sl.nil).bp) ((Z9.mk b.ai b.bA b.bp true [] Sl.nil).aB).nl ((Z9.mk b.ai b.bA b.bp true [] Sl.nil).aB).l j)) fun f=>on ((f.1,f.2)) fun z9=>some (z9.2,z9.1)
def FZ (n:Nat):Prop:=∀{a0:Z3}{a1:Z9}{a2:Int}  {c0:Nat}{r:(Z9×Z3)},ni n a0 a1 a2=some r->∀(H:af) (b7:H c0=some (.cells (Z3.c a0))),At 197 [.d (.ptr c0 0),.agg (Z9.c a1),.d (.int .i64 a2)] H (RT (.a (.agg (Z9.c r.1))) ((cS H c0 (Z3.c r.2))))
theorem VF (n:Nat) (J:FZ (au:=au) n):FZ (au:=au) (n+1):=by
 intro a0 f I  c0 r b H b7;rw [ni] at b;refine AC.oW 56 [.cell 6 72] Tryz.call197 Tryz.func197 ?_;refine hz (cS H c0 (Z3.c a0)) (Y7 ?_);obtain⟨x3,K,b⟩:=aX b;refine sH (bV rfl rfl (MN K _ az)) rfl ?_;refine pq ?_;refine aK.tok 5 fun g v=>?_;obtain⟨ak,v⟩:=af.eA v
 refine aK.cU 1 _ rfl (fun j w cs hh hx=>tok_cell 3 5 5 hh (t:=g) az hx rfl) ?_;refine aK.tok 1 fun k p=>?_;obtain⟨al,p⟩:=af.eA p;obtain⟨ao,p⟩:=af.eA p;refine aK.cU 1 _ rfl (fun j w cs hh hx=>tok_cell 4 1 1 hh (t:=k) az hx rfl) ?_;refine Y1 ?_
 refine aK.cU 1 _ rfl (fun j w cs hh hx=>tok_cell 3 5 5 hh (t:=g) az hx rfl) ?_;refine aK.cU 1 _ rfl (fun j w cs hh hx=>tok_cell 4 1 1 hh (t:=k) az hx rfl) ?_;refine Y6 ?_;obtain⟨L,M,b⟩:=aX b;refine SH (am aG (TK rfl) rfl (TK rfl) (TK rfl) M) ?_;refine Y3 ?_
 refine dS (tl [6,7]) (fun(z:Z3×Z9)=>[]) (fun z=>[Z9.c Z9.zero,((bL .i64) z.2.ai++(bL .i64) z.2.bA++aG z.2.bp++[Sl.d 5 Z9.c (some g) z.2.aB]++[Sl.d 1 aG (some k) z.2.aR])]) (fun z=>((tS (cS H c0 (Z3.c z.1)) g 5 z.2.aB).set k (some (.tok 1 z.2.aR.l.length)))) (fun z=>(some (z.2,z.1))=some r) ?_ ?_
 ·intro ap N;refine Y4 ?_;obtain⟨q,O,b⟩:=bZ b
  refine gz (tl [0,2,4,6,7]) (fun(z:Nat×Z3×Z9)=>[(8,vi z.1)]) (fun z=>[Z9.c Z9.zero,((bL .i64) z.2.2.ai++(bL .i64) z.2.2.bA++aG z.2.2.bp++[Sl.d 5 Z9.c (some g) z.2.2.aB]++[Sl.d 1 aG (some k) z.2.2.aR])]) (fun z=>((tS (cS H c0 (Z3.c z.2.1)) g 5 z.2.2.aB).set k (some (.tok 1 z.2.2.aR.l.length)))) (fun z=>f.aB.l.length-z.1) (fun z=>Option.bind (ng I (ni n) (f.aB.l.drop z.1) z.2.1 z.2.2) q=some r) (0,x3,(Z9.mk ((Z9.mk f.ai f.bA f.bp true [] Sl.nil).ai) ((Z9.mk f.ai f.bA f.bp true [] Sl.nil).bA) ((Z9.mk f.ai f.bA f.bp true [] Sl.nil).bp) ((Z9.mk f.ai f.bA f.bp true [] Sl.nil).aB).nl ((Z9.mk f.ai f.bA f.bp true [] Sl.nil).aB).l L)) b wA ?_
  rintro ⟨y,s,m⟩ b aq P;refine ar fun av Q=>Y3 ?_;refine s0 (dK (TK rfl) rfl rfl (Z9.ej _)) rfl ?_;refine aU Z9.c f.aB fun aw=>Y3 ?_;refine Gk 32 ?_;refine bI 33 rfl (fun hC=>iK (TK rfl) rfl rfl (TK rfl) rfl rfl) ?_;refine bI 34 rfl (fun hC=>eD (TK rfl) rfl rfl az rfl) ?_;refine Gk 35 ?_;refine Y2 ?_
  refine ag.yR (fun l=>Option.bind (ng I (ni n) l s m) q=some r) (Option.bind (some (s,m)) q=some r) b (fun b=>by rw [ng] at b; exact b) (fun _ R b=>by rw [ng] at b; rw [R] at b; exact b) rfl rfl (fun ax B C U b=>?_) (fun C b=>?_)
  ·rw [ng] at b;rw [U,cond_true] at b;have ay:=oD (and_left C);refine sk Q (ar fun aA W=>Y4 ?_);refine s0 (dK (TK rfl) rfl rfl (Z9.ej _)) rfl ?_;refine Y1 ?_;obtain⟨aC,X,b⟩:=vO B b;refine S (ix Z9.c y X) (Y2 ?_);obtain⟨aD,Y,b⟩:=aJ b;refine S (fp Y) ?_;obtain⟨Z,aa,b⟩:=aJ b
   refine sH (bV rfl rfl (J aa _ az)) rfl ?_;refine Y3 ?_;refine bC 9 _ rfl (kl [0,2,4,6,7,8]) ?_;refine Y5 ?_;obtain⟨E,ab,b⟩:=aJ b;refine SH (am Z9.c (TK rfl) rfl (TK rfl) (TK rfl) ab) ?_;refine Y3 ?_;refine W _ ?_;refine Y5 ?_;exact P _ ((y+1),Z.2,(Z9.mk m.ai m.bA m.bp E.nl E.l m.aR)) wA b (dl B)
  have b:=ku O b;refine ag.exit ?_;obtain⟨aE,ad,b⟩:=bW b;exact N _ (s,m) wA (ku ad b:)
 rintro ⟨ae,ah⟩ b;refine ar fun aF aj=>ag.cU 1 _ rfl (fun j w cs hh hx=>kH 3 hx rfl) ?_;refine ag.cU 1 _ rfl (fun j w cs hh hx=>kH 4 hx rfl) ?_;refine ag.cU 1 (Z9.c ah) rfl (fun j w cs hh hx=>by rw [Z9.mC]; exact hx) ?_;refine Y4 ?_;refine aj _ ?_;refine ry ?_;obtain rfl:=oJ b;refine bU.cH (cS H c0 (Z3.c ae)) rfl ⟨rfl,rfl⟩ ?_;intro F aH G
 have aI:F≠g:=fun u=>by subst u; simp_all [af.set]
 have aL:F≠k:=fun u=>by subst u; simp_all [af.set]
 rw [<- G];simp only [af.set] at G ⊢;(repeat' split)<;>simp_all
theorem MO:∀(n:Nat),(FZ (au:=au) n)
 | 0=>fun b=>by first|cases b|(rw [ni] at b; cases b)
 | n+1=>VF n (MO n)
def VG (a0:Z3) (b:Z9) (f:Int):Option (Z9×Z3):=ni F0 a0 b f
theorem VH {a0 b f c0 r}(g:VG a0 b f=some r) (H:af) (b7:H c0=some (.cells (Z3.c a0))):At 197 [.d (.ptr c0 0),.agg (Z9.c b),.d (.int .i64 f)] H (RT (.a (.agg (Z9.c r.1))) ((cS H c0 (Z3.c r.2)))):=(MO F0) g H b7
def E2 (a0:Z3) (b:Z9) (f:Int):Option (Z9×Z3):=ni F0 a0 b f
def q8:Nat->Int->Option Bs
 | 0,_=>none
 | n+1,a0=>(sq (48:Int) (Int.tmod a0 (10:Int))).bind fun x3=>bif (decide ((-10:Int)<a0)) then(some (nN (⟨false,[(IntKind.wrap .u8 x3)]⟩:Sl Int))) else(((q8 n) (IntKind.wrap .i64 (Int.tdiv a0 (10:Int)))).bind fun b=>(a_ b (nN (⟨false,[(IntKind.wrap .u8 x3)]⟩:Sl Int))).bind fun f=>some f)
def F1 (n:Nat):Prop:=∀{a0:Int}   {r:Bs},q8 n a0=some r->∀(H:af),At 217 [.d (.int .i64 a0)] H (RT (.a (.d (.str r))) H)
theorem VI (n:Nat) (f:F1 (au:=au) n):F1 (au:=au) (n+1):=by
 intro a0   r b H;rw [q8] at b;refine AC.oW 18 [.tmp 2] Tryz.call217 Tryz.func217 ?_;refine Y5 ?_;refine s0 (Ia rfl rfl (by decide)) rfl ?_;obtain⟨x3,g,b⟩:=aX b;refine S (Iv g) (s0 (PN (TK rfl) (TK rfl) rfl rfl) rfl ?_);refine Y1 ?_;refine s0 (DQ (y:=(⟨false,[(IntKind.wrap .u8 x3)]⟩:Sl Int)) (TK rfl) rfl (TK rfl) rfl (TK rfl) rfl rfl) rfl ?_;refine Y2 ?_;refine ar fun p j=>Y4 ?_
 refine cE b (fun k b=>?_) (fun k b=>?_)
 ·refine Y4 ?_;exact rt b
 refine sk j (Y2 ?_);refine s0 (H_ rfl rfl (by decide)) rfl ?_;obtain⟨q,l,b⟩:=aX b;refine Sc rfl rfl (f l) (Y1 ?_);obtain⟨s,m,b⟩:=aX b;refine S (bX m) (Y2 ?_);exact rt b
theorem MP:∀(n:Nat),(F1 (au:=au) n)
 | 0=>fun b=>by first|cases b|(rw [q8] at b; cases b)
 | n+1=>VI n (MP n)
def VJ (a0:Int):Option Bs:=q8 F0 a0
theorem MQ {a0 r}(b:VJ a0=some r) (H:af) :At 217 [.d (.int .i64 a0)] H (RT (.a (.d (.str r))) H):=(MP F0) b H 
def E0 (a0:Int):Option Bs:=q8 F0 a0
def uT (a0:Int):Option Bs:=bif (decide (a0<(0:Int))) then((E0 a0).bind fun b=>(a_ ([45]:Bs) b).bind fun x7=>some x7) else((E0 (IntKind.wrap .i64 (0-a0))).bind fun f=>some f)
theorem IP {a0 r}(b:uT a0=some r) (H:af) :At 211 [.d (.int .i64 a0)] H (RT (.a (.d (.str r))) H):=by
 unfold uT at b;refine AC.oW 11 [.tmp 2] Tryz.call211 Tryz.func211 ?_;refine Y3 ?_;refine ar fun m f=>Y4 ?_;refine cE b (fun g b=>?_) (fun g b=>?_)
 ·refine Y2 ?_;obtain⟨p,j,b⟩:=aX b;refine Sc rfl rfl (MQ j) ?_;obtain⟨x7,k,b⟩:=aX b;refine S (bX k) (Y2 ?_);exact rt b
 refine sk f (Y2 ?_);refine s0 (Ow rfl) rfl ?_;obtain⟨q,l,b⟩:=aX b;refine Sc rfl rfl (MQ l) (Y2 ?_);exact rt b
def lg (a0:Z3) (f:Bs) (b:Z9):Option (Z9×Z3):=bif (((((f==([73,110,116]:Bs)))&&(decide (b.ai=(2:Int))))&&(decide ((-2147483648:Int)<=b.bA)))&&(decide (b.bA<(2147483648:Int)))) then(some (b,a0)) else(on (bif (((f==([83,116,114,105,110,103]:Bs)))&&(decide (b.ai=(3:Int)))) then((((f==([83,116,114,105,110,103]:Bs)))&&(decide (b.ai=(3:Int))))) else(bif (((f==([66,111,111,108,101,97,110]:Bs)))&&(decide (b.ai=(1:Int)))) then((((f==([66,111,111,108,101,97,110]:Bs)))&&(decide (b.ai=(1:Int))))) else((((f==([73,68]:Bs)))&&(decide (b.ai=(3:Int))))))) fun g=>bif g then(some (b,a0)) else(bif (((f==([73,68]:Bs)))&&(decide (b.ai=(2:Int)))) then((uT b.bA).bind fun j=>some ((Z9.mk 3 0 j true [] Sl.nil),a0)) else(on (()) fun _=>on (fq a0 (23:Int)) fun x5=>some ((Z9.mk 0 0 [] true [] Sl.nil),x5))))
theorem VK {a0 f g c0 r}(b:lg a0 f g=some r) (H:af) (b7:H c0=some (.cells (Z3.c a0))):At 200 [.d (.ptr c0 0),.d (.str f),.agg (Z9.c g)] H (RT (.a (.agg (Z9.c r.1))) ((cS H c0 (Z3.c r.2)))):=by
 unfold lg at b;refine AC.oW 64 [.cell 6 72] Tryz.call200 Tryz.func200 ?_;refine hz (cS H c0 (Z3.c a0)) (Y4 ?_);refine dS (tl [0,6]) (fun(z:Z9)=>[]) (fun z=>[Z9.c z]) (fun z=>(cS H c0 (Z3.c a0))) (fun z=>(on (fq a0 (23:Int)) fun x5=>some ((Z9.mk 0 0 [] true [] Sl.nil),x5))=some r) ?_ ?_
 ·intro B k;refine Y6 ?_;refine Gk 11 ?_;refine Gk 12 ?_;refine Y3 ?_;refine Gk 16 ?_;refine Gk 17 ?_;refine Y3 ?_;refine Gk 21 ?_;refine Gk 22 ?_;refine Y3 ?_;refine cE b (fun l b=>?_) (fun l b=>?_)
  ·refine Y4 ?_;exact rt b
  obtain⟨m,p,b⟩:=bW b;refine aO (tl [0,1,5,6]) (fun(z:Bool)=>[(26,.a (.d (.bool z)))]) (fun z=>(cS H c0 (Z3.c a0))) (fun z=>m z=some r) ?_ ?_
  ·intro C j;refine Y5 ?_;refine Gk 30 ?_;refine Gk 31 ?_;refine Y3 ?_;refine cP b (fun q b=>?_) (fun q b=>?_)
   ·refine ag.skip ?_;exact j _ (((f==([83,116,114,105,110,103]:Bs)))&&(decide (g.ai=(3:Int)))) wA b
   refine Y5 ?_;refine Gk 37 ?_;refine Gk 38 ?_;refine Y3 ?_;refine cP b (fun s b=>?_) (fun s b=>?_)
   ·refine ag.skip ?_;exact j _ (((f==([66,111,111,108,101,97,110]:Bs)))&&(decide (g.ai=(1:Int)))) wA b
   refine Y5 ?_;refine Gk 44 ?_;refine Gk 45 ?_;refine Y3 ?_;exact j _ (((f==([73,68]:Bs)))&&(decide (g.ai=(3:Int)))) wA b
  rintro E b;have b:=ku p b;refine cE b (fun t b=>?_) (fun t b=>?_)
  ·refine Y4 ?_;exact rt b
  refine Y5 ?_;refine Gk 53 ?_;refine Gk 54 ?_;refine Y3 ?_;refine cE b (fun u b=>?_) (fun u b=>?_)
  ·refine Y3 ?_;obtain⟨F,v,b⟩:=aX b;refine Sc rfl rfl (IP v) (Y3 ?_);exact rt b
  refine ag.skip ?_;obtain⟨G,w,b⟩:=bW b;exact k _ Z9.zero wA (ku w b:)
 rintro I b;refine Y2 ?_;obtain⟨x5,y,b⟩:=dQ b;refine sH (bV rfl rfl (rJ y _ az)) rfl ?_;refine hq (cS H c0 (Z3.c x5)) (Y5 ?_);exact rt b
def lm (a0:Z3) (b:Z9):List Z8->Unit ⊕ ((Z9×Z3))
 | []=>Sum.inl ()
 | f::g=>on (f) fun j=>bif ((j.aa==b.bp)) then(Sum.inr ((Z9.mk 4 0 b.bp true [] Sl.nil),a0)) else(lm a0 b (g) )
def lp (a0:Z3) (k:ah) (b:Z9):(Z9×Z3):=on (fun(_:Unit)=>on (fq a0 (23:Int)) fun x5=>((Z9.mk 0 0 [] true [] Sl.nil),x5)) fun f=>bif ((decide (b.ai=(4:Int)))||((decide (b.ai=(3:Int)))&&(!a0.fK))) then(on (lm a0 b k.ax.l ) fun g=>match g with|Sum.inl _=>(f ())|Sum.inr j=>(j)) else(f ())
theorem VL {a0 f g c0 r}(b:some (lp a0 f g)=some r) (H:af) (b7:H c0=some (.cells (Z3.c a0))):At 201 [.d (.ptr c0 0),.agg (ah.c f),.agg (Z9.c g)] H (RT (.a (.agg (Z9.c r.1))) ((cS H c0 (Z3.c r.2)))):=by
 unfold lp at b;refine AC.oW 45 [.cell 6 72] Tryz.call201 Tryz.func201 ?_;refine hz (cS H c0 (Z3.c a0)) (Y5 ?_);obtain⟨t,u,b⟩:=mP b;refine dS (tl [0,6]) (fun(z:Z9)=>[]) (fun z=>[Z9.c z]) (fun z=>(cS H c0 (Z3.c a0))) (fun z=>some (t ())=some r) ?_ ?_
 ·intro I j;refine Y6 ?_;refine Gk 12 ?_;refine Gk 13 ?_;refine Gk 14 ?_;refine Y1 ?_;refine Gk 16 ?_;refine bI 17 rfl (fun hC=>iK (TK rfl) rfl rfl (TK rfl) rfl rfl) ?_;refine bI 18 rfl (fun hC=>eD (TK rfl) rfl rfl az rfl) ?_;refine Gk 19 ?_;refine bI 15 rfl (fun hC=>kI rfl rfl rfl) ?_;refine Y2 ?_;refine cP b (fun v b=>?_) (fun v b=>?_)
  ·refine Y4 ?_;obtain⟨k,m,b⟩:=dU b;refine gz (tl [0,4,5,6]) (fun(z:Nat×Z9)=>[(7,vi z.1)]) (fun z=>[Z9.c z.2]) (fun z=>(cS H c0 (Z3.c a0))) (fun z=>f.ax.l.length-z.1) (fun z=>k (lm a0 g (f.ax.l.drop z.1) )=some r) (0,Z9.zero) b wA ?_;rintro ⟨p,q⟩ b J w;refine ar fun K y=>Y4 ?_;refine aU Z8.c f.ax fun L=>Y2 ?_
   refine ag.bJ (fun l=>k (lm a0 g l )=some r) b rfl (fun M s B b=>?_) (fun B b=>?_)
   ·rw [lm] at b;refine sk y (ar fun N C=>Y5 ?_);obtain⟨O,E,b⟩:=vP s b;refine Sd (ix Z8.c p E) (Y6 ?_);refine cP b (fun F b=>?_) (fun F b=>?_)
    ·refine Y6 ?_;exact rs (ku m b:)
    refine sk C (Y5 ?_);exact w _ ((p+1),q) wA b (dl s)
   rw [lm] at b;have b:=ku m b;refine ag.exit ?_;exact j _ q wA b
  refine ag.skip ?_;exact j _ Z9.zero wA b
 rintro P b;rw [u] at b;refine Y2 ?_;obtain⟨x5,G,b⟩:=ff b;refine sH (bV rfl rfl (rJ G _ az)) rfl ?_;refine hq (cS H c0 (Z3.c x5)) (Y5 ?_);exact rt b
def F2  :Option Bool:=some false
def oC (a0:(Sl Z7)) (f:Int) :Nat->Int->Option Bool
 | 0,_=>none
 | g+1,b=>bif (decide (b<f)) then((c_ a0.l b).bind fun j=>(c_ a0.l f).bind fun k=>bif ((j.aa==k.aa)) then(some true) else((cN b (1:Int)).bind fun m=>(oC a0 f g) m)) else(F2   )
def B6 (a0:(Sl Z7)) (b:Int):Option Bool:=oC a0 b F0 (0:Int)
theorem VM {a0 j w0 r}(b:B6 a0 j=some r) (H:af) :At 212 [.d (Sl.d 10 Z7.c w0 a0),.d (.int .i64 j)] H (RT (.a (.d (.bool r))) H):=by
 unfold B6 at b;refine AC.oW 22 [.tmp 4] Tryz.call212 Tryz.func212 ?_;refine Y3 ?_;refine aO kN (fun(z:Unit)=>[]) (fun z=>H) (fun z=>F2 =some r) ?_ ?_
 ·intro y k;refine Y4 ?_;refine bz (tl [0,1]) (fun(z:Nat×Int)=>[(5,.a (.d (.int .i64 z.2)))]) (fun z=>H) (fun z=>z.1) (fun z=>oC a0 j z.1 z.2=some r) (F0,(0:Int)) b wA ?_;rintro ⟨g,B⟩ b C l;cases g with
  | zero=>cases b
  | succ g =>
    rw [oC] at b;refine ar fun E m=>Y5 ?_;refine cE b (fun p b=>?_) (fun p b=>?_)
    ·refine sk m (ar fun F q=>Y4 ?_);obtain⟨G,s,b⟩:=bO b;refine aN.s0 (iV (f:=Z7.c) (TK rfl) rfl (TK rfl) rfl rfl rfl s) rfl ?_;refine Y4 ?_;obtain⟨I,t,b⟩:=bO b;refine aN.s0 (iV (f:=Z7.c) (TK rfl) rfl (TK rfl) rfl rfl rfl t) rfl ?_;refine Y4 ?_;refine cE b (fun u b=>?_) (fun u b=>?_)
     ·refine Y3 ?_;exact rt b
     refine sk q (Y2 ?_);obtain⟨v,w,b⟩:=bO b;refine S (fp w) (Y2 ?_);exact l _ (g,v) wA b (nS _)
    refine ag.exit ?_;exact k _ () wA b
 rintro _ b;unfold F2 at b;refine Y3 ?_;exact rt b
def xl (a0:(Sl Z7)) (b:Int):Option Bool:=B6 a0 b
end Go.Proofs
