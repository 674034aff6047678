import Derived.Test.YtdlobimnfmjonaaGreatDoorV5
set_option maxRecDepth 100000
set_option maxHeartbeats 2000000
set_option linter.unusedVariables false
set_option linter.unusedSimpArgs false
namespace Go.Proofs
open Go Go.Ab
open aJ aq ah dN fT
attribute [local irreducible] aJ aN ah aq
variable {av:bR}
def nM (f:ag):List Bs->Nat->Z0->Option (Z0)
 | [],j,b=>some b
 | p::q,j,b=>on (p) fun k=>on (wG b k (2:Int)) fun g=>on (bif (decide (g=(0:Int))) then(⟨f.aH.nl,f.aH.l.take j⟩:Sl Bs) else(Sl.nil:Sl Bs)) fun r=>on (bif (decide (g=(0:Int))) then lE r k else false) fun s=>on (bif ((decide (g=(0:Int)))&&s) then((7:Int)) else(g)) fun m=>Option.bind (bif (!decide (m=(0:Int))) then((kJ b m f.aa).bind fun t=>some t) else(on (fL b.Fd k) fun u=>(zc b f u.1).bind fun v=>some v)) fun w=>nM f (q) (j+1) w
def Bw (a0:Z0) (b:ag):Option Z0:=Option.bind (nM b b.aH.l 0 a0) fun f=>some f
theorem Wy {a0 j c0 g r}(b:Bw a0 j=some r) (H:af) (bX:H c0=some (.cells (Z0.cg (some g) a0))) (ad:H g=some (.tok 2 a0.dR.l.length)):AC Tryz.prog 80 [.d (.ptr c0 0),.agg (ag.c j)] H fun v h'=>v=.cI []/\h'=((tS H g 2 r.dR).set c0 (some (.cells (Z0.cg (some g) r)))):=by
 unfold Bw at b;refine AC.oW 51 [] Tryz.call80 Tryz.func80 ?_;have ae:c0≠g:=fun G=>by subst G; simp_all
 refine hz ((tS H g 2 a0.dR).set c0 (some (.cells (Z0.cg (some g) a0)))) (Y6 ?_);refine aT aB j.aH fun ai=>Y3 ?_;obtain⟨s,I,b⟩:=bZ b
 refine bD (tl [0,3,10,11]) (fun(z:Nat×Z0)=>[(12,vi z.1)]) (fun z=>((tS H g 2 z.2.dR).set c0 (some (.cells (Z0.cg (some g) z.2))))) (fun z=>j.aH.l.length-z.1) (fun z=>Option.bind (nM j (j.aH.l.drop z.1) z.1 z.2) s=some r) (0,a0) b wA ?_;rintro ⟨k,m⟩ b aj J;try dsimp only at b
 refine Y3 ?_;refine ar fun ak K=>?_;refine ah.bL (fun l=>Option.bind (nM j l k m) s=some r) b rfl (fun al w t b=>?_) (fun t b=>?_)
 ·rw [nM] at b;try dsimp only at t
  have am:=oD t;refine sk K (aR (tl [0,3,10,11,12]) (fun(z:Z0)=>[]) (fun z=>((tS H g 2 z.dR).set c0 (some (.cells (Z0.cg (some g) z))))) (fun z=>Option.bind (nM j (j.aH.l.drop (k+1)) (k+1) z) s=some r) ?_ ?_)
  ·intro an y;refine Y3 ?_;obtain⟨L,M,b⟩:=vO w b;refine S (ix aB k M) (Y7 ?_);obtain⟨N,O,b⟩:=vO rfl b;refine s0 (eY rfl rfl (MK O _ aA)) rfl ?_;refine Y2 ?_
   refine aR (tl [0,3,5,10,11,12]) (fun(z:Int)=>[(6,.a (.d (.int .i64 z)))]) (fun z=>((tS H g 2 m.dR).set c0 (some (.cells (Z0.cg (some g) m))))) (fun z=>Option.bind (Option.bind (bif (!decide (z=(0:Int))) then((kJ m z j.aa).bind fun p=>some p) else(on (fL m.Fd L) fun B=>(zc m j B.1).bind fun q=>some q)) fun u=>nM j (j.aH.l.drop (k+1)) (k+1) u) s=some r) ?_ ?_
   ·intro ao C;refine Y5 ?_;refine Gk 23 ?_;refine Y1 ?_;obtain⟨ap,P,b⟩:=ej (fun _=>(Q.uv (by omega))) b;refine e9 24 25 rfl rfl (fun hC=>lg (f:=aB) (l:=none) (r:=(some ((k:Nat):Int))) (TK rfl) rfl (TK rfl) rfl rfl trivial rfl (P hC)) ?_;refine Y1 ?_;obtain⟨au,R,b⟩:=ej (fun _=>rfl) b;refine fE 26 27 rfl rfl rfl rfl rfl rfl (fun hC=>xm (R hC)) ?_;refine Y2 ?_
    obtain⟨av,E,b⟩:=gM b;refine cP b (fun U b=>?_) (fun U b=>?_)
    ·refine Y3 ?_;exact C _ (7:Int) wA (ku E b:)
    refine ah.skip ?_;exact C _ N wA (ku E b:)
   rintro aw b;try dsimp only at b
   refine ar fun ax W=>Y4 ?_;obtain⟨ay,F,b⟩:=cM b;refine cO b (fun X b=>?_) (fun X b=>?_)
   ·refine Y5 ?_;obtain⟨p,Y,b⟩:=qO rfl b;refine sH (bS rfl rfl (xw Y _ aA aA)) rfl ?_;refine hq ((tS H g 2 p.dR).set c0 (some (.cells (Z0.cg (some g) p)))) (Y1 ?_);refine ah.exit ?_;exact y _ p wA (ku F b:)
   refine sk W (Y6 ?_);obtain⟨B,Z,b⟩:=vO rfl b;refine Sc rfl rfl (oo Z) (Y7 ?_);refine bx 7 _ rfl (kl [0,3,10,11,12]) ?_;refine Y4 ?_;obtain⟨q,ab,b⟩:=qO rfl b;refine sH (bS rfl rfl (Wx ab _ aA aA)) rfl ?_;refine hq ((tS H g 2 q.dR).set c0 (some (.cells (Z0.cg (some g) q)))) (Y1 ?_);exact y _ q wA (ku F b:)
  rintro u b;try dsimp only at b
  refine Y4 ?_;exact J _ ((k+1),u) wA b (dl w)
 rw [nM] at b;have b:=ku I b;refine ah.exit ?_;repeat (first|refine fW ?_|refine fV ?_|refine fU ?_)
 obtain rfl:=oJ b;refine bH.gm ((tS H g 2 m.dR).set c0 (some (.cells (Z0.cg (some g) m)))) (xs:=[]) rfl ⟨rfl,rfl⟩ ?_;exact(fun _ _ h=>h)
def xx  :Option Int:=some (-1:Int)
def xy (a0:(Sl Z8)) (f:(Z8->Option Bool)) :Nat->Nat->Option Int
 | 0,_=>none
 | g+1,b=>bif (decide (((b:Nat):Int)<((a0.l.length:Nat):Int))) then((a0.l[b]?).bind fun j=>(f j).bind fun k=>bif k then(some ((b:Nat):Int)) else((xy a0 f g) (b+1))) else(xx   )
def xz (a0:(Sl Z8)) (b:(Z8->Option Bool)):Option Int:=xy a0 b (a0.l.length+1) 0
theorem MN {a0 g w0 j r}(b:xz a0 g=some r) (H:af) (p:∀k r,g k=some r->gL Tryz.prog j [.agg (Z8.c k)] H fun v h'=>v=.a (.d (.bool r))/\h'=H):AC Tryz.prog 121 [.d (Sl.d 2 Z8.c w0 a0),.d j] H (RT (.a (.d (.int .i64 r))) H):=by
 unfold xz at b;refine AC.oW 19 [.tmp 4] Tryz.call121 Tryz.func121 ?_;refine Y3 ?_;refine aR kN (fun(z:Unit)=>[]) (fun z=>H) (fun z=>xx =some r) ?_ ?_
 ·intro E q;refine Y2 ?_;refine aT Z8.c a0 fun F=>Y3 ?_;refine bD (tl [0,1,7]) (fun(z:Nat×Nat)=>[(8,vi z.2)]) (fun z=>H) (fun z=>z.1) (fun z=>xy a0 g z.1 z.2=some r) ((a0.l.length+1),0) b wA ?_;rintro ⟨f,m⟩ b G s;cases f with
  | zero=>cases b
  | succ f =>
    rw [xy] at b;refine Y3 ?_;refine ar fun I t=>?_;refine cE b (fun u b=>?_) (fun u b=>?_)
    ·refine sk t (ar fun J w=>Y9 ?_);obtain⟨K,y,b⟩:=bO b;refine S (ix Z8.c m y) (Y1 ?_);obtain⟨L,B,b⟩:=bO b;refine s0 (lZ rfl rfl (p _ _ B)) rfl ?_;refine Y1 ?_;refine cE b (fun C b=>?_) (fun C b=>?_)
     ·refine Y4 ?_;exact rt b
     refine sk w (Y4 ?_);exact s _ (f,(m+1)) wA b (nS _)
    refine ah.exit ?_;exact q _ () wA b
 rintro _ b;unfold xx at b;refine Y3 ?_;exact rt b
def nN (f:(Z8->Bool)):List Z8->Nat->Unit ⊕ Int
 | [],b=>Sum.inl ()
 | g::j,b=>on (g) fun k=>on (f k) fun l=>bif l then(Sum.inr ((b:Nat):Int)) else(nN f (j) (b+1) )
theorem Wz {a0:Sl Z8}{k:Z8->Bool}(g:(Unit ⊕ Int)->Option Int) (m:∀(f:Nat) (b:Nat),xx   =g (Sum.inl ())) (p:∀e:Int,some e=g (Sum.inr e)):∀(f:Nat) (b:Nat),(0<f/\a0.l.length<b+f)->xy a0 (fun q=>some (k q)) f b=g (nN k (a0.l.drop b) b ):=by
 intro f;induction f with
 | zero=>intro b hn; exact absurd hn.1 (by omega)
 | succ f r =>
  intro b hn;rw [xy];by_cases bl:b<a0.l.length
  ·obtain⟨s,j⟩:=Qa bl;rw [Q.nr j,nN];refine QT bl ?_;refine Q.vM j fun t u=>?_;refine Q.vM rfl fun v w=>?_;refine Q.AM ?_ ?_
   ·all_goals exact p _
   all_goals exact r _ ⟨by omega,by omega⟩
  rw [dL (by omega),nN];refine QF bl ?_;exact m f b
def zd (a0:(Sl Z8)) (g:(Z8->Bool)):Int:=on (nN g a0.l 0 ) fun b=>match b with|Sum.inl _=>(on (()) fun _=>(-1:Int))|Sum.inr f=>(f)
theorem WA (a0:(Sl Z8)) (a1:(Z8->Bool)):xz a0 (fun f=>some (a1 f))=some (zd a0 a1):=by
 unfold xz zd;refine Q.AP fun g b=>?_;refine Wz  g ?_ ?_ _ _ ⟨Nat.succ_pos _,by omega⟩
 ·intro m p;refine Qe (b _) ?_;try dsimp only
  refine Q.AP fun j k=>?_;have l:xx  =j ():=by
   refine Qe (k _) ?_;unfold xx;all_goals rfl
  all_goals exact l
 intro q;refine Qe (b _) ?_;try dsimp only
 all_goals rfl
def xA (a0:(Sl Z8)) (b:(Z8->Option Bool)):Option Bool:=(xz a0 b).bind fun x3=>some (decide ((0:Int)<=x3))
theorem MO {a0 j w0 f r}(b:xA a0 j=some r) (H:af) (k:∀g r,j g=some r->gL Tryz.prog f [.agg (Z8.c g)] H fun v h'=>v=.a (.d (.bool r))/\h'=H):AC Tryz.prog 82 [.d (Sl.d 2 Z8.c w0 a0),.d f] H (RT (.a (.d (.bool r))) H):=by
 unfold xA at b;refine AC.oW 9 [.tmp 4] Tryz.call82 Tryz.func82 ?_;refine Y6 ?_;obtain⟨x3,l,b⟩:=bO b;refine s0 (eY rfl rfl (MN l _ k)) rfl ?_;refine Y3 ?_;exact rt b
def s6 (a0:(Sl Z8)) (b:(Z8->Bool)):Bool:=on (zd a0 b) fun x3=>(decide ((0:Int)<=x3))
theorem MP (a0:(Sl Z8)) (a1:(Z8->Bool)):xA a0 (fun b=>some (a1 b))=some (s6 a0 a1):=by
 unfold xA s6;refine Q.vM (WA _ _) fun x3 f=>?_;all_goals rfl
def uT (a0:Z8) (b:Z8):Bool:=((a0.aa==b.aa))
def CB (a0:Z8) (b:Z8):Option Bool:=some (uT a0 b)
theorem WB (a0:Z8) (a1:Z8):CB a0 a1=some (uT a0 a1):=rfl
theorem WC {a0 f r}(b:CB a0 f=some r) (H:af) :AC Tryz.prog 83 [.agg (Z8.c a0),.d (.view (Z8.c f))] H (RT (.a (.d (.bool r))) H):=by
 unfold CB uT at b;refine AC.oW 9 [.tmp 3] Tryz.call83 Tryz.func83 ?_;refine yt ?_;exact rt b
def nO (f:ag):List Z8->Nat->Z0->Option (Z0)
 | [],j,b=>some b
 | p::q,j,b=>on (p) fun k=>on (wG b k.aa (1:Int)) fun g=>on (bif (decide (g=(0:Int))) then(⟨f.au.nl,f.au.l.take j⟩:Sl Z8) else(Sl.nil:Sl Z8)) fun r=>on (bif (decide (g=(0:Int))) then s6 r (fun s=>uT s k) else false) fun t=>on (bif ((decide (g=(0:Int)))&&t) then((7:Int)) else(g)) fun m=>Option.bind (bif (!decide (m=(0:Int))) then((bV f.aa ([46]:Bs)).bind fun u=>(bV u k.aa).bind fun v=>(kJ b m v).bind fun w=>some w) else(some b)) fun y=>nO f (q) (j+1) y
def px :List ag->Z0->Option (Z0)
 | [],b=>some b
 | g::j,b=>on (g) fun f=>Option.bind (bif (decide (f.ak=(1:Int))) then((Bw b f).bind fun k=>some k) else(bif (decide (f.ak=(3:Int))) then(Option.bind (nO f f.au.l 0 b) fun m=>some m) else(some b))) fun p=>px  (j) p
def ze (a0:ai):Option (Sl Z5):=Option.bind (px  a0.aj.l (Z0.mk a0 Sl.nil)) fun b=>on (b) fun f=>some f.dR
theorem WD {a0:ai}{r:Sl Z5}(b:ze a0=some r) (H:af){g:Nat}(aY:H g=some (.tok 2 0)):AC Tryz.prog 45 [.agg (ai.c a0)] H fun v h'=>v=.a (.d (Sl.d 2 Z5.c (some g) r))/\h'=H.set g (some (.tok 2 r.l.length)):=by
 unfold ze at b;refine AC.oW 67 [.tmp 2] Tryz.call45 Tryz.func45 ?_;refine hz (H.set g (some (.tok 2 0))) (Y7 ?_);refine sE (dx.xX rfl) rfl (fun _ _ _ ⟨k,L,ab,ad,ae⟩=>?_);subst ab ad ae;obtain⟨aZ,L⟩:=af.dW L;refine aJ.oE k _ aA (fun j w cs hh hx=>tok_cell 1 2 2 hh (t:=g) aA hx rfl) ?_
 refine hq ((H.set g (some (.tok 2 0))).set k (some (.cells (Z0.cg (some g) (Z0.mk a0 Sl.nil))))) (Y2 ?_);refine aR (tl [3]) (fun(z:Z0)=>[]) (fun z=>((tS H g 2 z.dR).set k (some (.cells (Z0.cg (some g) z))))) (fun z=>(some z.dR)=some r) ?_ ?_
 ·intro a1 ak;refine Y3 ?_;refine aT ag.c a0.aj fun a2=>Y3 ?_;obtain⟨B,al,b⟩:=bZ b;refine bD (tl [3,13,14]) (fun(z:Nat×Z0)=>[(15,vi z.1)]) (fun z=>((tS H g 2 z.2.dR).set k (some (.cells (Z0.cg (some g) z.2))))) (fun z=>a0.aj.l.length-z.1) (fun z=>Option.bind (px  (a0.aj.l.drop z.1) z.2) B=some r) (0,(Z0.mk a0 Sl.nil)) b wA ?_;rintro ⟨C,u⟩ b a3 am
  try dsimp only at b
  refine Y3 ?_;refine ar fun a4 an=>?_;refine ah.bL (fun l=>Option.bind (px  l u) B=some r) b rfl (fun a5 M E b=>?_) (fun E b=>?_)
  ·rw [px] at b;try dsimp only at E
   have a6:=oD E;refine sk an (aR (tl [3,13,14,15]) (fun(z:Z0)=>[]) (fun z=>((tS H g 2 z.dR).set k (some (.cells (Z0.cg (some g) z))))) (fun z=>Option.bind (px  (a0.aj.l.drop (C+1)) z) B=some r) ?_ ?_)
   ·intro a7 F;refine Y2 ?_;obtain⟨m,ao,b⟩:=vO M b;refine S (ix ag.c C ao) (Y4 ?_);refine bx 5 _ rfl (kl [3,13,14,15]) ?_;refine Y9 ?_;obtain⟨a8,G,b⟩:=cM b;refine cO b (fun ap b=>?_) (fun ap b=>?_)
    ·refine Y3 ?_;obtain⟨I,av,b⟩:=qO rfl b;refine sH (bS rfl rfl (Wy av _ aA aA)) rfl ?_;refine hq ((tS H g 2 I.dR).set k (some (.cells (Z0.cg (some g) I)))) (Y1 ?_);exact F _ I wA (ku G b:)
    refine Y4 ?_;refine cO b (fun aw b=>?_) (fun aw b=>?_)
    ·refine Y3 ?_;refine aT Z8.c m.au fun a9=>Y3 ?_;obtain⟨y,ax,b⟩:=cM b;refine bD (tl [3,5,13,14,15,29,30]) (fun(z:Nat×Z0)=>[(31,vi z.1)]) (fun z=>((tS H g 2 z.2.dR).set k (some (.cells (Z0.cg (some g) z.2))))) (fun z=>m.au.l.length-z.1) (fun z=>Option.bind (nO m (m.au.l.drop z.1) z.1 z.2) y=some r) (0,u) b wA ?_;rintro ⟨p,q⟩ b a_ ay
     try dsimp only at b
     refine Y3 ?_;refine ar fun a' az=>?_;refine ah.bL (fun l=>Option.bind (nO m l p q) y=some r) b rfl (fun ba N J b=>?_) (fun J b=>?_)
     ·rw [nO] at b;try dsimp only at J
      have bb:=oD J;refine sk az (aR (tl [3,5,13,14,15,29,30,31]) (fun(z:Z0)=>[]) (fun z=>((tS H g 2 z.dR).set k (some (.cells (Z0.cg (some g) z))))) (fun z=>Option.bind (nO m (m.au.l.drop (p+1)) (p+1) z) y=some r) ?_ ?_)
      ·intro bc O;refine Y3 ?_;obtain⟨P,aB,b⟩:=vO N b;refine S (ix Z8.c p aB) (Y5 ?_);refine bx 7 _ rfl (kl [3,5,6,13,14,15,29,30,31]) ?_;refine Y4 ?_;obtain⟨aC,aD,b⟩:=vO rfl b;refine s0 (eY rfl rfl (MK aD _ aA)) rfl ?_;refine Y2 ?_
       refine aR (tl [3,5,7,13,14,15,29,30,31]) (fun(z:Int)=>[(8,.a (.d (.int .i64 z)))]) (fun z=>((tS H g 2 q.dR).set k (some (.cells (Z0.cg (some g) q))))) (fun z=>Option.bind (Option.bind (bif (!decide (z=(0:Int))) then((bV m.aa ([46]:Bs)).bind fun R=>(bV R P.aa).bind fun U=>(kJ q z U).bind fun s=>some s) else(some q)) fun K=>nO m (m.au.l.drop (p+1)) (p+1) K) y=some r) ?_ ?_
       ·intro bd W;refine Y5 ?_;refine Gk 43 ?_;refine Y1 ?_;obtain⟨aE,aF,b⟩:=ej (fun _=>(Q.uv (by omega))) b;refine e9 44 45 rfl rfl (fun hC=>lg (f:=Z8.c) (l:=none) (r:=(some ((p:Nat):Int))) (TK rfl) rfl (TK rfl) rfl rfl trivial rfl (aF hC)) ?_;refine gC rfl rfl (fun hC=>makeFunc rfl) rfl ?_;obtain⟨be,aG,b⟩:=ej (o:=xA aE (fun aH=>CB aH P)) (fun _=>(by simp only [WB,MP])) b
        refine e9 46 47 rfl rfl (fun hC=>jQ rfl rfl (fun H=>MO (aG hC) H (fun _ _ hx=>WC hx _))) ?_;refine Y2 ?_;obtain⟨bf,X,b⟩:=gM b;refine cP b (fun aI b=>?_) (fun aI b=>?_)
        ·refine Y3 ?_;exact W _ (7:Int) wA (ku X b:)
        refine ah.skip ?_;exact W _ aC wA (ku X b:)
       rintro bg b;try dsimp only at b
       refine Y4 ?_;obtain⟨bh,Y,b⟩:=cM b;refine cO b (fun aK b=>?_) (fun aK b=>?_)
       ·refine Y5 ?_;obtain⟨R,aL,b⟩:=qO rfl b;refine S (dy aL) (Y2 ?_);obtain⟨U,aM,b⟩:=qO rfl b;refine S (dy aM) ?_;obtain⟨s,aP,b⟩:=qO rfl b;refine sH (bS rfl rfl (xw aP _ aA aA)) rfl ?_;refine hq ((tS H g 2 s.dR).set k (some (.cells (Z0.cg (some g) s)))) (Y1 ?_);exact O _ s wA (ku Y b:)
       refine ah.skip ?_;exact O _ q wA (ku Y b:)
      rintro K b;try dsimp only at b
      refine Y4 ?_;exact ay _ ((p+1),K) wA b (dl N)
     rw [nO] at b;have b:=ku ax b;refine ah.exit ?_;exact F _ q wA (ku G b:)
    refine ah.skip ?_;exact F _ u wA (ku G b:)
   rintro aQ b;try dsimp only at b
   refine Y4 ?_;exact am _ ((C+1),aQ) wA b (dl M)
  rw [px] at b;have b:=ku al b;refine ah.exit ?_;obtain⟨bi,aU,b⟩:=bW b;exact ak _ u wA (ku aU b:)
 rintro aV b;try dsimp only at b
 refine Y7 ?_;refine ry ?_;obtain rfl:=oJ b;refine bH.b9 (tS H g 2 aV.dR) rfl ⟨rfl,rfl⟩ ?_;intro aW bj Z;have bk:aW≠k:=fun aX=>by subst aX; simp_all [af.set]
 rw [<- Z];simp only [af.set] at Z ⊢;(repeat' split)<;>simp_all
def pz (a0:Z9) (g:Bs):Option (Z9×Bool):=on (nJ a0.aW g) fun x3=>bif (((!decide (a0.ak=(6:Int)))||(decide (x3<(0:Int))))||(decide (((a0.aG.l.length:Nat):Int)<=x3))) then(some ((Z9.mk 0 0 [] true [] Sl.nil),false)) else((dh a0.aG.l x3).bind fun b=>(qE b).bind fun f=>some (f,true))
theorem FP {a0 g r}(b:pz a0 g=some r) (H:af) :AC Tryz.prog 159 [.agg (Z9.c a0),.d (.str g)] H (RT (.cI [.agg (Z9.c r.1),.d (.bool r.2)]) H):=by
 unfold pz at b;refine AC.oW 32 [.cell 4 72,.tmp 5] Tryz.call159 Tryz.func159 ?_;refine Y9 ?_;obtain⟨x3,j,b⟩:=vT rfl b;refine Sc rfl rfl (MC j) (Y2 ?_);refine ar fun q k=>Y6 ?_;refine Gk 15 ?_;refine Y4 ?_;refine bG 20 rfl (fun hC=>dU (TK rfl) rfl rfl (congrArg (fun x=>some (A.d x)) (Z9.eN _))) ?_;refine bG 21 rfl (fun hC=>dK Z9.c a0.aG) ?_;refine G2 19 22 rfl rfl BI ?_
 refine Y2 ?_;refine cE b (fun l b=>?_) (fun l b=>?_)
 ·refine Y5 ?_;exact rt b
 refine sk k (Y2 ?_);refine s0 (dU (TK rfl) rfl rfl (congrArg (fun x=>some (A.d x)) (Z9.eN _))) rfl ?_;refine Y1 ?_;obtain⟨s,m,b⟩:=qT rfl b;refine s0 (iZ (f:=Z9.c) (TK rfl) rfl (TK rfl) rfl rfl rfl m) rfl ?_;refine Y1 ?_;obtain⟨t,p,b⟩:=qT rfl b;refine Sc rfl rfl (zM p) (Y3 ?_);exact rt b
def uW (a0:Z1) (b:Z9):Option Bool:=bif ((!decide (b.ak=(7:Int)))||(!a0.oK)) then(some false) else((pz a0.fc b.br).bind fun x7=>some (!x7.2))
theorem MQ {a0 f c0 r}(b:uW a0 f=some r) (H:af) (bX:H c0=some (.cells (Z1.c a0))):AC Tryz.prog 129 [.d (.ptr c0 0),.agg (Z9.c f)] H (RT (.a (.d (.bool r))) H):=by
 unfold uW at b;refine AC.oW 29 [.tmp 4] Tryz.call129 Tryz.func129 ?_;refine Y4 ?_;refine ar fun l g=>Y6 ?_;refine Gk 11 ?_;refine bG 12 rfl (fun hC=>iD (TK rfl) rfl rfl (TK rfl) rfl rfl) ?_;refine bG 13 rfl (fun hC=>eM (TK rfl) rfl rfl aA rfl) ?_;refine Gk 14 ?_;refine Y2 ?_;refine cE b (fun j b=>?_) (fun j b=>?_)
 ·refine Y3 ?_;exact rt b
 refine sk g (Y7 ?_);obtain⟨x7,k,b⟩:=qT rfl b;refine cH rfl rfl (FP k) (Y7 ?_);refine bx 5 _ rfl (kl [6]) ?_;refine Y5 ?_;exact rt b
def tf (a0:Z9) (b:Int):Option (Z9×Int):=bif (!decide (b=(0:Int))) then(some ((Z9.mk 0 0 [] true [] Sl.nil),b)) else((qE a0).bind fun x7=>some (x7,(0:Int)))
theorem WE {a0 f r}(b:tf a0 f=some r) (H:af) :AC Tryz.prog 131 [.agg (Z9.c a0),.d (.int .i64 f)] H (RT (.cI [.agg (Z9.c r.1),.d (.int .i64 r.2)]) H):=by
 unfold tf at b;refine AC.oW 12 [.cell 4 72,.tmp 5] Tryz.call131 Tryz.func131 ?_;refine Y5 ?_;refine ar fun l g=>Y4 ?_;refine cE b (fun j b=>?_) (fun j b=>?_)
 ·refine Y6 ?_;exact rt b
 refine sk g (Y2 ?_);obtain⟨x7,k,b⟩:=qT rfl b;refine Sc rfl rfl (zM k) (Y3 ?_);exact rt b
def s9 (a0:Z1) (b:Int):Option (Int×Z1):=bif (decide ((24:Int)<b)) then(some ((5:Int),a0)) else((cF a0.uw (1:Int)).bind fun x7=>bif (decide ((4096:Int)<x7)) then(some ((4:Int),(Z1.mk a0.Fd a0.fc a0.oK x7))) else(some ((0:Int),(Z1.mk a0.Fd a0.fc a0.oK x7))))
theorem MR {a0 f c0 r}(b:s9 a0 f=some r) (H:af) (bX:H c0=some (.cells (Z1.c a0))):AC Tryz.prog 163 [.d (.ptr c0 0),.d (.int .i64 f)] H fun v h'=>v=.a (.d (.int .i64 r.1))/\h'=(cS H c0 (Z1.c r.2)):=by
 unfold s9 at b;refine AC.oW 19 [.tmp 4] Tryz.call163 Tryz.func163 ?_;refine hz (cS H c0 (Z1.c a0)) (Y3 ?_);refine ar fun p g=>Y4 ?_;refine cE b (fun j b=>?_) (fun j b=>?_)
 ·refine Y3 ?_;exact rt b
 refine sk g (Y5 ?_);obtain⟨x7,k,b⟩:=qT rfl b;refine S (eC k) (Y2 ?_);refine dG (gv (TK rfl) rfl rfl aA rfl (by repeat (first|exact bn.zero|apply bn.succ))) rfl rfl ?_;refine hq (H.set c0 (some (.cells (Z1.c (Z1.mk a0.Fd a0.fc a0.oK x7))))) (Y1 ?_);refine ar fun q l=>Y7 ?_;refine cE b (fun m b=>?_) (fun m b=>?_)
 ·refine Y3 ?_;exact rt b
 refine sk l (Y3 ?_);exact rt b
def qD (j:Int) (g:Z1->Z9->Int->Option (Int×Z1)):List Z9->Z1->Option (Z1 ⊕ ((Int×Z1)))
 | [],f=>some (Sum.inl f)
 | k::l,f=>on (k) fun m=>(cF j (1:Int)).bind fun p=>(g f m p).bind fun b=>bif (!decide (b.1=(0:Int))) then(some (Sum.inr (b.1,b.2))) else(qD j g (l) b.2)
def mJ:Nat->Z1->Z9->Int->Option (Int×Z1)
 | 0,_,_,_=>none
 | n+1,a0,p,f=>(s9 a0 f).bind fun b=>bif (!decide (b.1=(0:Int))) then(some (b.1,b.2)) else(Option.bind (qD f (mJ n) p.aG.l b.2) fun g=>match g with|Sum.inl j=>(on (j) fun k=>some ((0:Int),k))|Sum.inr m=>(some m))
def FQ (n:Nat):Prop:=∀{a0:Z1}{a1:Z9}{a2:Int}  {c0:Nat}{r:(Int×Z1)},mJ n a0 a1 a2=some r->∀(H:af) (bX:H c0=some (.cells (Z1.c a0))),AC Tryz.prog 162 [.d (.ptr c0 0),.agg (Z9.c a1),.d (.int .i64 a2)] H fun v h'=>v=.a (.d (.int .i64 r.1))/\h'=(cS H c0 (Z1.c r.2))
theorem WG (n:Nat) (u:FQ (av:=av) n):FQ (av:=av) (n+1):=by
 intro a0 f t  c0 r b H bX;rw [mJ] at b;refine AC.oW 33 [.tmp 6] Tryz.call162 Tryz.func162 ?_;refine hz (cS H c0 (Z1.c a0)) (Y4 ?_);refine ar fun N v=>Y3 ?_;obtain⟨g,w,b⟩:=qT rfl b;refine sH (bS rfl rfl (MR w _ aA)) rfl ?_;refine hq (cS H c0 (Z1.c g.2)) (Y6 ?_);refine cE b (fun y b=>?_) (fun y b=>?_)
 ·refine Y4 ?_;exact rt b
 refine sk v (aR kN (fun(z:Z1)=>[]) (fun z=>(cS H c0 (Z1.c z))) (fun z=>(some ((0:Int),z))=some r) ?_ ?_)
 ·intro O B;refine Y2 ?_;refine s0 (dU (TK rfl) rfl rfl (congrArg (fun x=>some (A.d x)) (Z9.eN _))) rfl ?_;refine aT Z9.c f.aG fun P=>Y3 ?_;obtain⟨j,k,b⟩:=bZ b;refine bD (tl [0,2,18,19]) (fun(z:Nat×Z1)=>[(20,vi z.1)]) (fun z=>(cS H c0 (Z1.c z.2))) (fun z=>f.aG.l.length-z.1) (fun z=>Option.bind (qD t (mJ n) (f.aG.l.drop z.1) z.2) j=some r) (0,g.2) b wA ?_
  rintro ⟨m,p⟩ b Q C;refine Y3 ?_;refine ar fun R E=>?_;refine ah.bL (fun l=>Option.bind (qD t (mJ n) l p) j=some r) b rfl (fun U q F b=>?_) (fun F b=>?_)
  ·rw [qD] at b;refine sk E (ar fun W G=>Y2 ?_);obtain⟨X,I,b⟩:=vO q b;refine S (ix Z9.c m I) (Y4 ?_);refine bx 9 _ rfl (kl [0,2,18,19,20]) ?_;refine Y4 ?_;obtain⟨Y,J,b⟩:=qO rfl b;refine S (eC J) ?_;obtain⟨s,K,b⟩:=qO rfl b;refine sH (bS rfl rfl (u K _ aA)) rfl ?_;refine hq (cS H c0 (Z1.c s.2)) (Y6 ?_);refine cO b (fun L b=>?_) (fun L b=>?_)
   ·refine Y4 ?_;exact rs (ku k b:)
   refine sk G (Y4 ?_);exact C _ ((m+1),s.2) wA b (dl q)
  rw [qD] at b;have b:=ku k b;refine ah.exit ?_;obtain⟨Z,M,b⟩:=bW b;exact B _ p wA (ku M b:)
 rintro aa b;refine Y3 ?_;exact rt b
theorem MS:∀(n:Nat),(FQ (av:=av) n)
 | 0=>fun b=>by first|cases b|(rw [mJ] at b; cases b)
 | n+1=>WG n (MS n)
def WH (a0:Z1) (b:Z9) (f:Int):Option (Int×Z1):=mJ F0 a0 b f
theorem WI {a0 b f c0 r}(g:WH a0 b f=some r) (H:af) (bX:H c0=some (.cells (Z1.c a0))):AC Tryz.prog 162 [.d (.ptr c0 0),.agg (Z9.c b),.d (.int .i64 f)] H fun v h'=>v=.a (.d (.int .i64 r.1))/\h'=(cS H c0 (Z1.c r.2)):=(MS F0) g H bX
def EJ (a0:Z1) (b:Z9) (f:Int):Option (Int×Z1):=mJ F0 a0 b f
def FR (a0:Z9) (f:Bool) (b:Z1):Z1:=(Z1.mk b.Fd a0 f b.uw)
theorem WJ {a0 f b c2 r}(g:some (FR a0 f b)=some r) (H:af) (j:H c2=some (.cells (Z1.c b))):p_ Tryz.prog 207 [.d (.view (Z9.c a0)),.d (.view (vF f)),.d (.view [.ptr c2 0])] H fun v h'=>v=.cI []/\h'=(cS H c2 (Z1.c r)):=by
 unfold FR at g;refine p_.of_wp (fn:=Tryz.f207) (c:=_) Tryz.bN (fun _ _=>Tryz.call207 _ _) Tryz.func207 rfl (n:=11) rfl (rs:=[]) rfl rfl ?_;refine hz (cS H c2 (Z1.c b)) (Y7 ?_);refine dG (ue (TK rfl) rfl rfl aA rfl (Nat.le_of_ble_eq_true rfl) rfl rfl) rfl rfl ?_;refine hq (H.set c2 (some (.cells (Z1.c (Z1.mk b.Fd a0 b.oK b.uw))))) (Y2 ?_)
 refine dG (gv (TK rfl) rfl rfl aA rfl (by repeat (first|exact bn.zero|apply bn.succ))) rfl rfl ?_;refine hq (H.set c2 (some (.cells (Z1.c (Z1.mk b.Fd a0 f b.uw))))) (Y1 ?_);repeat (first|refine fW ?_|refine fV ?_|refine fU ?_)
 obtain rfl:=oJ g;refine bH.gm (H.set c2 (some (.cells (Z1.c (Z1.mk b.Fd a0 f b.uw))))) (xs:=[]) rfl ⟨rfl,rfl⟩ ?_;exact(fun _ _ h=>h)
def BF (a0:Bs):Z9:=(Z9.mk 3 0 a0 true [] Sl.nil)
theorem WK {a0 r}(b:some (BF a0)=some r) (H:af) :AC Tryz.prog 189 [.d (.str a0)] H (RT (.a (.agg (Z9.c r))) H):=by
 unfold BF at b;refine AC.oW 5 [.cell 2 72] Tryz.call189 Tryz.func189 ?_;refine Y8 ?_;exact rt b
def Tryz.WL:Go.Shelf.Ren:=⟨fun|171=>208|243=>216|246=>219|283=>221|284=>222|285=>223|286=>224|129=>226|317=>225|318=>227|319=>228|320=>229|337=>230|338=>231|n=>n,fun|3=>3|9=>9|2=>2|4=>4|171=>214|0=>0|53=>215|37=>212|5=>5|173=>218|212=>222|51=>223|20=>20|213=>224|46=>226|232=>229|233=>230|n=>n,fun|17=>0|18=>1|19=>2|n=>n⟩
theorem Tryz.WM:Go.Proofs.LaysM.n171 Tryz.prog Tryz.WL:={
 mixed:=by kernel_rfl
 f129:=Tryz.func226.trans (congrArg some (by kernel_rfl))
 f171:=Tryz.func208.trans (congrArg some (by kernel_rfl))
 f243:=Tryz.func216.trans (congrArg some (by kernel_rfl))
 f246:=Tryz.func219.trans (congrArg some (by kernel_rfl))
 f283:=Tryz.func221.trans (congrArg some (by kernel_rfl))
 f284:=Tryz.func222.trans (congrArg some (by kernel_rfl))
 f285:=Tryz.func223.trans (congrArg some (by kernel_rfl))
 f286:=Tryz.func224.trans (congrArg some (by kernel_rfl))
 f317:=Tryz.func225.trans (congrArg some (by kernel_rfl))
 f318:=Tryz.func227.trans (congrArg some (by kernel_rfl))
 f319:=Tryz.func228.trans (congrArg some (by kernel_rfl))
 f320:=Tryz.func229.trans (congrArg some (by kernel_rfl))
 f337:=Tryz.func230.trans (congrArg some (by kernel_rfl))
 f338:=Tryz.func231.trans (congrArg some (by kernel_rfl))
 t0:=Tryz.underlying0
 a0:=Tryz.isAgg0
 z0:=Tryz.sizeOf0
 v0:=Tryz.zeroValue0
 t2:=Tryz.underlying2
 a2:=Tryz.isAgg2
 z2:=Tryz.sizeOf2
 v2:=Tryz.zeroValue2
 t3:=Tryz.underlying3
 a3:=Tryz.isAgg3
 z3:=Tryz.sizeOf3
 v3:=Tryz.zeroValue3
 t4:=Tryz.underlying4
 a4:=Tryz.isAgg4
 z4:=Tryz.sizeOf4
 v4:=Tryz.zeroValue4
 t5:=Tryz.underlying5
 a5:=Tryz.isAgg5
 z5:=Tryz.sizeOf5
 v5:=Tryz.zeroValue5
 t9:=Tryz.underlying9
 a9:=Tryz.isAgg9
 z9:=Tryz.sizeOf9
 v9:=Tryz.zeroValue9
 t20:=Tryz.underlying20
 a20:=Tryz.isAgg20
 z20:=Tryz.sizeOf20
 v20:=Tryz.zeroValue20
 t37:=Tryz.underlying212
 a37:=Tryz.isAgg212
 z37:=Tryz.sizeOf212
 v37:=Tryz.zeroValue212
 t46:=Tryz.underlying226
 a46:=Tryz.isAgg226
 z46:=Tryz.sizeOf226
 v46:=Tryz.zeroValue226
 t51:=Tryz.underlying223
 a51:=Tryz.isAgg223
 z51:=Tryz.sizeOf223
 v51:=Tryz.zeroValue223
 t53:=Tryz.underlying215
 a53:=Tryz.isAgg215
 z53:=Tryz.sizeOf215
 v53:=Tryz.zeroValue215
 t171:=Tryz.underlying214
 a171:=Tryz.isAgg214
 z171:=Tryz.sizeOf214
 v171:=Tryz.zeroValue214
 t173:=Tryz.underlying218
 a173:=Tryz.isAgg218
 z173:=Tryz.sizeOf218
 v173:=Tryz.zeroValue218
 t212:=Tryz.underlying222
 a212:=Tryz.isAgg222
 z212:=Tryz.sizeOf222
 v212:=Tryz.zeroValue222
 t213:=Tryz.underlying224
 a213:=Tryz.isAgg224
 z213:=Tryz.sizeOf224
 t232:=Tryz.underlying229
 a232:=Tryz.isAgg229
 z232:=Tryz.sizeOf229
 v232:=Tryz.zeroValue229
 t233:=Tryz.underlying230
 a233:=Tryz.isAgg230
 z233:=Tryz.sizeOf230
 v233:=Tryz.zeroValue230
 g17:=by kernel_rfl
 g18:=by kernel_rfl
 g19:=by kernel_rfl
 i0:=by kernel_rfl
 i2:=by kernel_rfl
 i3:=by kernel_rfl
 i4:=by kernel_rfl
 i5:=by kernel_rfl
 i9:=by kernel_rfl
 i20:=by kernel_rfl
 i37:=by kernel_rfl
 i46:=by kernel_rfl
 i51:=by kernel_rfl
 i53:=by kernel_rfl
 i171:=by kernel_rfl
 i173:=by kernel_rfl
 i212:=by kernel_rfl
 i232:=by kernel_rfl
 i233:=by kernel_rfl
 m17:=by kernel_rfl
 m18:=by kernel_rfl
 m19:=by kernel_rfl }
def BD (n:Int):Option Bs:=if -9223372036854775808<=n/\n<=9223372036854775807/\(Lib.itoa n).length<=fJ then some (Lib.itoa n) else none
def J4 (n:Int):Option Bs:=BD n
theorem WN {a0 oT gT r}(b:BD a0=some r) (H:af) (f:H gT=some oT) (g:iq Tryz.prog oT):AC Tryz.prog 208 [.d (.int .i64 a0)] H fun v h'=>v=.a (.d (.str r))/\h'=H:=by
 unfold BD at b
 split at b
 ·rename_i h
  obtain rfl:=oJ b;exact Ps Tryz.WM h.1 h.2.1 rfl f g h.2.2
 cases b
def wK (a0:Int):Option Bs:=(J4 a0).bind fun x3=>some x3
theorem WO {a0 oT gT r}(b:wK a0=some r) (H:af) (g:H gT=some oT) (j:iq Tryz.prog oT):AC Tryz.prog 190 [.d (.int .i64 a0)] H (RT (.a (.d (.str r))) H):=by
 unfold wK at b;refine AC.oW 5 [.tmp 2] Tryz.call190 Tryz.func190 ?_;refine Y5 ?_;obtain⟨x3,f,b⟩:=qT rfl b;refine s0 (eY rfl rfl (WN (gT:=gT) (oT:=oT) f _ aA (by assumption))) rfl ?_;refine Y2 ?_;exact rt b
def zh (a0:Z8) (b:Z9):Bool:=((a0.aa==b.br))
def CC (a0:Z8) (b:Z9):Option Bool:=some (zh a0 b)
theorem WQ (a0:Z8) (a1:Z9):CC a0 a1=some (zh a0 a1):=rfl
theorem WR {a0 f r}(b:CC a0 f=some r) (H:af) :AC Tryz.prog 191 [.agg (Z8.c a0),.d (.view (Z9.c f))] H (RT (.a (.d (.bool r))) H):=by
 unfold CC zh at b;refine AC.oW 9 [.tmp 3] Tryz.call191 Tryz.func191 ?_;refine yt ?_;exact rt b
def s_ (a0:Z1) (f:Bs) (b:Z9):Option (Z9×Int):=on (fun(m:Bool) (p:Z9)=>bif (!m) then(some ((Z9.mk 0 0 [] true [] Sl.nil),(23:Int))) else(some (p,(0:Int)))) fun g=>bif ((f==([73,110,116]:Bs))) then(g (((decide (b.ak=(2:Int)))&&(decide ((-2147483648:Int)<=b.bz)))&&(decide (b.bz<(2147483648:Int)))) b) else(bif ((f==([83,116,114,105,110,103]:Bs))) then(g (decide (b.ak=(3:Int))) b) else(bif ((f==([66,111,111,108,101,97,110]:Bs))) then(g (decide (b.ak=(1:Int))) b) else(bif ((f==([73,68]:Bs))) then(Option.bind (bif (decide (b.ak=(2:Int))) then((wK b.bz).bind fun q=>on (BF q) fun r=>some r) else(some b)) fun k=>g (decide (k.ak=(3:Int))) k) else(on (bif ((decide (b.ak=(3:Int)))&&(!a0.oK)) then((Z9.mk 4 b.bz b.br b.aG.nl b.aG.l b.aW)) else(b)) fun j=>on (fL a0.Fd f) fun s=>on (bif (decide (j.ak=(4:Int))) then s6 s.1.au (fun t=>zh t j) else false) fun u=>bif (!((decide (j.ak=(4:Int)))&&u)) then(some ((Z9.mk 0 0 [] true [] Sl.nil),(23:Int))) else(some (j,(0:Int)))))))
theorem WS {a0 s f oT c0 gT r}(b:s_ a0 s f=some r) (H:af) (bX:H c0=some (.cells (Z1.c a0))) (aa:H gT=some oT) (ab:iq Tryz.prog oT):AC Tryz.prog 167 [.d (.ptr c0 0),.d (.str s),.agg (Z9.c f)] H (RT (.cI [.agg (Z9.c r.1),.d (.int .i64 r.2)]) H):=by
 unfold s_ at b;refine AC.oW 82 [.cell 6 72,.tmp 7] Tryz.call167 Tryz.func167 ?_;refine Y1 ?_;refine sL (vz rfl (by repeat (first|exact ee.nil|apply ee.cons))) rfl ?_;refine Y6 ?_;obtain⟨t,u,b⟩:=mT b;refine ah.O6 (tl [5,6]) (fun(z:Bool×Z9)=>[(8,.a (.d (.bool z.1)))]) (fun z=>[Z9.c z.2,Z9.c Z9.zero]) (fun z=>H) (fun z=>(t z.1 z.2)=some r) ?_ ?_
 ·intro ad g v;refine Y8 ?_;refine cE b (fun y b=>?_) (fun y b=>?_)
  ·refine Y6 ?_;refine gC rfl rfl (fun hC=>nq (k:=47) rfl (jP (TK rfl) rfl rfl rfl rfl)) rfl ?_;refine Gk 48 ?_;refine Y3 ?_;refine gC rfl rfl (fun hC=>nq (k:=52) rfl (jP (TK rfl) rfl rfl rfl rfl)) rfl ?_;refine Gk 53 ?_;refine Y3 ?_;exact g _ ((((decide (f.ak=(2:Int)))&&(decide ((-2147483648:Int)<=f.bz)))&&(decide (f.bz<(2147483648:Int)))),f) wA b
  refine Y4 ?_;refine cE b (fun B b=>?_) (fun B b=>?_)
  ·refine Y6 ?_;exact g _ ((decide (f.ak=(3:Int))),f) wA b
  refine Y4 ?_;refine cE b (fun C b=>?_) (fun C b=>?_)
  ·refine Y6 ?_;exact g _ ((decide (f.ak=(1:Int))),f) wA b
  refine Y4 ?_;refine cE b (fun E b=>?_) (fun E b=>?_)
  ·obtain⟨F,G,b⟩:=bZ b;refine cT (tl [5,6]) (fun(z:Z9)=>[]) (fun z=>[Z9.c z,Z9.c Z9.zero]) (fun z=>H) (fun z=>F z=some r) ?_ ?_
   ·intro ae m;refine Y5 ?_;refine cO b (fun I b=>?_) (fun I b=>?_)
    ·refine Y3 ?_;obtain⟨ag,J,b⟩:=qO rfl b;refine s0 (eY rfl rfl (WO (gT:=gT) (oT:=oT) J _ aA (by assumption))) rfl ?_;obtain⟨K,L,b⟩:=vO rfl b;refine Sc rfl rfl (WK L) (Y2 ?_);exact m _ K wA b
    refine ah.skip ?_;exact m _ f wA b
   rintro p b;have b:=ku G b;refine Y6 ?_;exact g _ ((decide (p.ak=(3:Int))),p) wA b
  obtain⟨M,N,b⟩:=bW b;refine cT (tl [0,1,5,6]) (fun(z:Z9)=>[]) (fun z=>[Z9.c z,Z9.c Z9.zero]) (fun z=>H) (fun z=>M z=some r) ?_ ?_
  ·intro ai q;refine Y6 ?_;refine Gk 16 ?_;refine bG 17 rfl (fun hC=>iD (TK rfl) rfl rfl (TK rfl) rfl rfl) ?_;refine bG 18 rfl (fun hC=>eM (TK rfl) rfl rfl aA rfl) ?_;refine Gk 19 ?_;refine Y2 ?_;refine cP b (fun O b=>?_) (fun O b=>?_)
   ·refine Y2 ?_;refine aJ.cq 0 (Z9.cu f) rfl (fun j w cs hh hx=>by rw [<- Z9.l8]; exact hx) ?_;refine Y1 ?_;refine aJ.cq 0 (Z9.c (Z9.mk 4 f.bz f.br f.aG.nl f.aG.l f.aW)) rfl (fun j w cs hh hx=>by rw [Z9.l8]; exact hx) ?_;refine Y1 ?_;exact q _ (Z9.mk 4 f.bz f.br f.aG.nl f.aG.l f.aW) wA b
   refine ah.skip ?_;exact q _ f wA b
  rintro P b;have b:=ku N b;refine Y6 ?_;obtain⟨Q,R,b⟩:=vT rfl b;refine Sc rfl rfl (oo R) (Y7 ?_);refine bx 9 _ rfl (kl [5,6]) ?_;refine ah.Dt 5 _ rfl rfl ?_;refine Y6 ?_;refine Gk 36 ?_;refine gC rfl rfl (fun hC=>makeFunc rfl) rfl ?_;obtain⟨aj,S,b⟩:=l7 (o:=xA Q.1.au (fun U=>CC U P)) (fun _=>(by simp only [WQ,MP])) b
  refine e9 37 38 rfl rfl (fun hC=>jQ rfl rfl (fun H=>MO (S hC) H (fun _ _ hx=>WR hx _))) ?_;refine Y3 ?_;refine v _ ?_;refine ar fun al W=>Y4 ?_;refine cE b (fun X b=>?_) (fun X b=>?_)
  ·refine Y5 ?_;exact rt b
  refine sk W (Y5 ?_);exact rt b
 rintro ⟨am,an⟩ b;rw [u] at b;refine ar fun ao Y=>Y4 ?_;refine cE b (fun Z b=>?_) (fun Z b=>?_)
 ·refine Y5 ?_;exact rt b
 refine sk Y (Y5 ?_);exact rt b
def pE (m:aL) (p:Int) (j:Z1->aL->Z9->Int->Option (Z9×Int×Z1)):List Z9->Z1->Z9->Option (((Z1×Z9)) ⊕ ((Z9×Int×Z1)))
 | [],g,b=>some (Sum.inl (g,b))
 | q::r,g,b=>on (q) fun s=>(cF p (1:Int)).bind fun t=>(j g m s t).bind fun f=>bif (!decide (f.2.1=(0:Int))) then(some (Sum.inr ((Z9.mk 0 0 [] true [] Sl.nil),f.2.1,f.2.2))) else((bf 80 b.aG (⟨false,[f.1]⟩:Sl Z9)).bind fun k=>pE m p j (r) f.2.2 (Z9.mk b.ak b.bz b.br k.nl k.l b.aW))
def qI (a0:Z1) (b:ag):List Bs->Unit ⊕ ((Z9×Int×Z1))
 | []=>Sum.inl ()
 | f::g=>on (f) fun j=>on (o4 b.ay j) fun k=>bif (!k.2) then(Sum.inr ((Z9.mk 0 0 [] true [] Sl.nil),(22:Int),a0)) else(qI a0 b (g) )
def iy (s:ag) (B:Z9) (t:Int) (u:Z1->aL->Z9->Int->Option (Z9×Int×Z1)) (v:Z1->Z7->Int->Option (Z9×Int×Z1)):List Z7->Nat->Z1->Z9->Option (((Z1×Z9)) ⊕ ((Z9×Int×Z1)))
 | [],k,f,b=>some (Sum.inl (f,b))
 | C::E,k,f,b=>on (C) fun g=>on ((⟨s.ay.nl,s.ay.l.take k⟩:Sl Z7)) fun F=>on (o4 F g.aa) fun G=>on (fun(H:Z1) (I:Z9)=>iy s B t u v (E) (k+1) H I) fun m=>bif G.2 then(m f b) else((pz B g.aa).bind fun j=>aY (j.2) (uW f j.1) false fun J=>on (fun(w:Int) (y:Z1) (K:Z9)=>bif (!decide (w=(0:Int))) then(some (Sum.inr ((Z9.mk 0 0 [] true [] Sl.nil),w,y))) else((bf 16 b.aW (⟨false,[g.aa]⟩:Sl Bs)).bind fun L=>(bf 80 b.aG (⟨false,[K]⟩:Sl Z9)).bind fun z=>m y (Z9.mk b.ak b.bz b.br z.nl z.l L))) fun p=>bif (j.2&&(!J)) then((cF t (1:Int)).bind fun M=>(u f g.ax j.1 M).bind fun q=>p q.2.1 q.2.2 q.1) else(bif g.b_ then((cF t (1:Int)).bind fun N=>(v f g N).bind fun r=>p r.2.1 r.2.2 r.1) else(on (iP g.ax) fun O=>bif O then(p (22:Int) f Z9.zero) else(m f b))))
mutual
def fR:Nat->Z1->aL->Z9->Int->Option (Z9×Int×Z1)
 | 0,_,_,_,_=>none
 | n+1,a0,f,r,m=>on (iQ a0.Fd f.aa) fun v=>bif (!v) then(some ((Z9.mk 0 0 [] true [] Sl.nil),(10:Int),a0)) else(on (fun(w:Z1) (g:Z9)=>(s9 w m).bind fun b=>bif (!decide (b.1=(0:Int))) then(some ((Z9.mk 0 0 [] true [] Sl.nil),b.1,b.2)) else(bif (decide (g.ak=(0:Int))) then(on (iP f) fun y=>bif y then(some ((Z9.mk 0 0 [] true [] Sl.nil),(23:Int),b.2)) else(some ((Z9.mk 0 0 [] true [] Sl.nil),(0:Int),b.2))) else((sK f).bind fun s=>bif s.2 then(((uY n) b.2 s.1 g m).bind fun p=>some (p.1,p.2.1,p.2.2)) else(on (fL b.2.Fd f.aa) fun j=>on (bif j.2 then cW f.aa else false) fun z=>bif ((j.2&&(!z))&&(decide (j.1.ak=(5:Int)))) then(((uZ n) b.2 j.1 g m).bind fun q=>some (q.1,q.2.1,q.2.2)) else((s_ b.2 f.aa g).bind fun t=>some (t.1,t.2,b.2)))))) fun u=>bif ((decide (r.ak=(7:Int)))&&a0.oK) then((pz a0.fc r.br).bind fun k=>bif (!decide (k.1.ak=(0:Int))) then((EJ a0 k.1 m).bind fun l=>bif (!decide (l.1=(0:Int))) then(some ((Z9.mk 0 0 [] true [] Sl.nil),l.1,l.2)) else(some (k.1,(0:Int),l.2))) else(u a0 k.1)) else(u a0 r))
def uY:Nat->Z1->aL->Z9->Int->Option (Z9×Int×Z1)
 | 0,_,_,_,_=>none
 | n+1,a0,p,b,q=>on (bif (!decide (b.ak=(5:Int))) then((⟨false,[b]⟩:Sl Z9)) else(b.aG)) fun j=>Option.bind (pE p q (fR n) j.l a0 (Z9.mk 5 0 [] true [] Sl.nil)) fun k=>match k with|Sum.inl f=>(on ((f.1,f.2)) fun g=>some (g.2,(0:Int),g.1))|Sum.inr m=>(some m)
def uZ:Nat->Z1->ag->Z9->Int->Option (Z9×Int×Z1)
 | 0,_,_,_,_=>none
 | n+1,a0,b,f,r=>bif (!decide (f.ak=(6:Int))) then(some ((Z9.mk 0 0 [] true [] Sl.nil),(23:Int),a0)) else(on (qI a0 b f.aW.l ) fun k=>match k with|Sum.inl _=>(on (()) fun _=>Option.bind (iy b f r (fR n) (jt n) b.ay.l 0 a0 (Z9.mk 6 0 [] true [] Sl.nil)) fun m=>match m with|Sum.inl g=>(on ((g.1,g.2)) fun j=>some (j.2,(0:Int),j.1))|Sum.inr p=>(some p))|Sum.inr q=>(some q))
def jt:Nat->Z1->Z7->Int->Option (Z9×Int×Z1)
 | 0,_,_,_=>none
 | n+1,a0,b,g=>((fR n) (Z1.mk a0.Fd (Z9.mk 0 0 [] true [] Sl.nil) true a0.uw) b.ax b.dm g).bind fun x5=>on (FR a0.fc a0.oK x5.2.2) fun f=>some (x5.1,x5.2.1,f)
end
def xB (n:Nat):Prop:=∀{a0:Z1}{a1:aL}{a2:Z9}{a3:Int}{oT:Ab.Obj}{c0:Nat}{gT:Nat}{r:(Z9×Int×Z1)},fR n a0 a1 a2 a3=some r->∀(H:af) (bX:H c0=some (.cells (Z1.c a0))) (b:H gT=some oT) (f:iq Tryz.prog oT),AC Tryz.prog 132 [.d (.ptr c0 0),.agg (aL.c a1),.agg (Z9.c a2),.d (.int .i64 a3)] H fun v h'=>v=.cI [.agg (Z9.c r.1),.d (.int .i64 r.2.1)]/\h'=(cS H c0 (Z1.c r.2.2))
def xC (n:Nat):Prop:=∀{a0:Z1}{a1:aL}{a2:Z9}{a3:Int}{oT:Ab.Obj}{c0:Nat}{gT:Nat}{r:(Z9×Int×Z1)},uY n a0 a1 a2 a3=some r->∀(H:af) (bX:H c0=some (.cells (Z1.c a0))) (b:H gT=some oT) (f:iq Tryz.prog oT),AC Tryz.prog 165 [.d (.ptr c0 0),.agg (aL.c a1),.agg (Z9.c a2),.d (.int .i64 a3)] H fun v h'=>v=.cI [.agg (Z9.c r.1),.d (.int .i64 r.2.1)]/\h'=(cS H c0 (Z1.c r.2.2))
def xD (n:Nat):Prop:=∀{a0:Z1}{a1:ag}{a2:Z9}{a3:Int}{oT:Ab.Obj}{c0:Nat}{gT:Nat}{r:(Z9×Int×Z1)},uZ n a0 a1 a2 a3=some r->∀(H:af) (bX:H c0=some (.cells (Z1.c a0))) (b:H gT=some oT) (f:iq Tryz.prog oT),AC Tryz.prog 166 [.d (.ptr c0 0),.agg (ag.c a1),.agg (Z9.c a2),.d (.int .i64 a3)] H fun v h'=>v=.cI [.agg (Z9.c r.1),.d (.int .i64 r.2.1)]/\h'=(cS H c0 (Z1.c r.2.2))
def xE (n:Nat):Prop:=∀{a0:Z1}{a1:Z7}{a2:Int}{oT:Ab.Obj}{c0:Nat}{gT:Nat}{r:(Z9×Int×Z1)},jt n a0 a1 a2=some r->∀(H:af) (bX:H c0=some (.cells (Z1.c a0))) (b:H gT=some oT) (f:iq Tryz.prog oT),AC Tryz.prog 188 [.d (.ptr c0 0),.agg (Z7.c a1),.d (.int .i64 a2)] H fun v h'=>v=.cI [.agg (Z9.c r.1),.d (.int .i64 r.2.1)]/\h'=(cS H c0 (Z1.c r.2.2))
theorem WT (n:Nat) (ai:xB (av:=av) n) (g:xC (av:=av) n) (j:xD (av:=av) n) (aj:xE (av:=av) n):xB (av:=av) (n+1):=by
 intro a0 aL ag aM oT c0 gT r b H bX ak k;rw [fR] at b;refine AC.oW 119 [.cell 8 72,.tmp 9] Tryz.call132 Tryz.func132 ?_;have al:gT≠c0:=fun l=>by subst l; obtain⟨_,_,_,am,_⟩:=k; simp_all
 refine hz (cS H c0 (Z1.c a0)) (Y2 ?_);refine sL (vz rfl (by repeat (first|exact ee.nil|apply ee.cons))) rfl ?_;refine Y3 ?_;refine ar fun an m=>Y7 ?_;obtain⟨ao,p,b⟩:=vT rfl b;refine cH rfl rfl (FL p) (Y2 ?_);refine cE b (fun q b=>?_) (fun q b=>?_)
 ·refine Y5 ?_;exact rt b
 refine sk m ?_;obtain⟨s,t,b⟩:=mT b;refine cT (tl [0,3,5,6,8]) (fun(z:Z1×Z9×Z9)=>[]) (fun z=>[Z9.c z.2.1,Z9.c z.2.2]) (fun z=>(cS H c0 (Z1.c z.1))) (fun z=>(s z.1 z.2.1)=some r) ?_ ?_
 ·intro ap f;refine Y6 ?_;refine Gk 29 ?_;refine bG 30 rfl (fun hC=>iD (TK rfl) rfl rfl (TK rfl) rfl rfl) ?_;refine bG 31 rfl (fun hC=>eM (TK rfl) rfl rfl aA rfl) ?_;refine Y2 ?_;refine cE b (fun u b=>?_) (fun u b=>?_)
  ·refine Y7 ?_;obtain⟨v,w,b⟩:=qT rfl b;refine cH rfl rfl (FP w) (oI ?_);refine cE b (fun y b=>?_) (fun y b=>?_)
   ·refine Y4 ?_;obtain⟨B,C,b⟩:=qT rfl b;refine sH (bS rfl rfl (WI C _ aA)) rfl ?_;refine hq (cS H c0 (Z1.c B.2)) (Y2 ?_);refine ar fun au E=>Y4 ?_;refine cE b (fun F b=>?_) (fun F b=>?_)
    ·refine Y6 ?_;exact rt b
    refine sk E (Y5 ?_);exact rt b
   refine ah.skip ?_;exact f _ (a0,v.1,Z9.zero) wA b
  refine ah.skip ?_;exact f _ (a0,ag,Z9.zero) wA b
 rintro ⟨aw,ax,ay⟩ b;rw [t] at b;refine ar fun az G=>Y3 ?_;obtain⟨I,J,b⟩:=qT rfl b;refine sH (bS rfl rfl (MR J _ aA)) rfl ?_;refine hq (cS H c0 (Z1.c I.2)) (Y6 ?_);refine cE b (fun K b=>?_) (fun K b=>?_)
 ·refine Y6 ?_;exact rt b
 refine sk G (ar fun aB L=>Y5 ?_);refine cE b (fun M b=>?_) (fun M b=>?_)
 ·refine ar fun aC N=>Y2 ?_;obtain⟨aD,O,b⟩:=vT rfl b;refine Sc rfl rfl (tQ O) (Y1 ?_);refine cE b (fun P b=>?_) (fun P b=>?_)
  ·refine Y5 ?_;exact rt b
  refine sk N (Y5 ?_);exact rt b
 refine sk L (ar fun aE Q=>Y2 ?_);obtain⟨aF,R,b⟩:=qT rfl b;refine Sc rfl rfl (FM R) (Y7 ?_);refine bx 12 _ rfl (kl [0,3,5,6,8,13]) ?_;refine Y3 ?_;refine cE b (fun S b=>?_) (fun S b=>?_)
 ·refine Y5 ?_;obtain⟨U,W,b⟩:=qT rfl b;refine sH (bS rfl rfl (g (gT:=gT) (oT:=oT) W _ aA aA (by assumption))) rfl ?_;refine hq (cS H c0 (Z1.c U.2.2)) (Y5 ?_);exact rt b
 refine sk Q (ar fun aG X=>Y7 ?_);obtain⟨aH,Y,b⟩:=vT rfl b;refine cH rfl rfl (oo Y) (Y7 ?_);refine bx 14 _ rfl (kl [0,3,5,6,8,15]) ?_;refine Y4 ?_;refine Gk 95 ?_;obtain⟨aI,Z,b⟩:=l7 (fun _=>rfl) b;refine dQ 96 rfl rfl rfl rfl rfl (fun hC=>ve (Z hC)) ?_;refine Gk 97 ?_;refine Y3 ?_;refine Gk 101 ?_;refine Gk 102 ?_;refine Y2 ?_
 refine cE b (fun aa b=>?_) (fun aa b=>?_)
 ·refine Y5 ?_;obtain⟨ab,ad,b⟩:=qT rfl b;refine sH (bS rfl rfl (j (gT:=gT) (oT:=oT) ad _ aA aA (by assumption))) rfl ?_;refine hq (cS H c0 (Z1.c ab.2.2)) (Y5 ?_);exact rt b
 refine sk X (Y5 ?_);obtain⟨aK,ae,b⟩:=qT rfl b;refine s0 (eY rfl rfl (WS (gT:=gT) (oT:=oT) ae _ aA aA (by assumption))) rfl ?_;refine Y5 ?_;exact rt b
theorem WU (n:Nat) (N:xB (av:=av) n) (aw:xC (av:=av) n) (ax:xD (av:=av) n) (ay:xE (av:=av) n):xC (av:=av) (n+1):=by
 intro a0 K L M oT c0 gT r b H bX az O;rw [uY] at b;refine AC.oW 51 [.cell 8 72,.tmp 9] Tryz.call165 Tryz.func165 ?_;have aC:gT≠c0:=fun g=>by subst g; obtain⟨_,_,_,aD,_⟩:=O; simp_all
 refine hz (cS H c0 (Z1.c a0)) (Y8 ?_);refine s0 (dU (TK rfl) rfl rfl (congrArg (fun x=>some (A.d x)) (Z9.eN _))) rfl ?_;refine Y2 ?_;obtain⟨P,Q,b⟩:=bW b;refine aR (tl [0,3,5,8]) (fun(z:(Sl Z9))=>[(10,.a (.d (Sl.d 5 Z9.c none z)))]) (fun z=>(cS H c0 (Z1.c a0))) (fun z=>P z=some r) ?_ ?_
 ·intro aE u;refine Y5 ?_;refine cP b (fun R b=>?_) (fun R b=>?_)
  ·refine Y5 ?_;exact u _ (⟨false,[L]⟩:Sl Z9) wA b
  refine ah.skip ?_;exact u _ L.aG wA b
 rintro p b;have b:=ku Q b;refine Y3 ?_;refine aJ.tok 5 fun f v=>?_;obtain⟨aF,v⟩:=af.dW v;have aH:f≠gT:=fun g=>by subst g; simp_all
 refine aJ.cq 1 _ rfl (fun j w cs hh hx=>tok_cell 3 5 5 hh (t:=f) aA hx rfl) ?_;refine Y1 ?_;refine aJ.cq 1 _ rfl (fun j w cs hh hx=>tok_cell 3 5 5 hh (t:=f) aA hx rfl) ?_;refine Y1 ?_
 refine cT (tl [8,11]) (fun(z:Z1×Z9×Z9)=>[]) (fun z=>[Z9.c z.2.1,((bI .i64) z.2.2.ak++(bI .i64) z.2.2.bz++aB z.2.2.br++[Sl.d 5 Z9.c (some f) z.2.2.aG]++(fun s=>[Sl.d 1 aB none s]) z.2.2.aW)]) (fun z=>(tS (cS H c0 (Z1.c z.1)) f 5 z.2.2.aG)) (fun z=>(some (z.2.2,(0:Int),z.1))=some r) ?_ ?_
 ·intro aI U;refine Y2 ?_;refine aT Z9.c p fun aK=>Y3 ?_;obtain⟨y,B,b⟩:=bZ b
  refine eZ (tl [0,3,5,8,11,24,25]) (fun(z:Nat×Z1×Z9×Z9)=>[(26,vi z.1)]) (fun z=>[Z9.c z.2.2.1,((bI .i64) z.2.2.2.ak++(bI .i64) z.2.2.2.bz++aB z.2.2.2.br++[Sl.d 5 Z9.c (some f) z.2.2.2.aG]++(fun s=>[Sl.d 1 aB none s]) z.2.2.2.aW)]) (fun z=>(tS (cS H c0 (Z1.c z.2.1)) f 5 z.2.2.2.aG)) (fun z=>p.l.length-z.1) (fun z=>Option.bind (pE K M (fR n) (p.l.drop z.1) z.2.1 z.2.2.2) y=some r) (0,a0,Z9.zero,(Z9.mk 5 0 [] true [] Sl.nil)) b wA ?_
  rintro ⟨C,E,F,k⟩ b aL W;refine Y3 ?_;refine ar fun aM X=>?_;refine ah.bL (fun l=>Option.bind (pE K M (fR n) l E k) y=some r) b rfl (fun aP G Y b=>?_) (fun Y b=>?_)
  ·rw [pE] at b;refine sk X (ar fun aQ Z=>Y2 ?_);obtain⟨aU,aa,b⟩:=vO G b;refine S (ix Z9.c C aa) (Y4 ?_);refine bx 13 _ rfl (kl [0,3,5,8,11,24,25,26]) ?_;refine Y5 ?_;obtain⟨aV,ab,b⟩:=qO rfl b;refine S (eC ab) ?_;obtain⟨I,ad,b⟩:=qO rfl b;refine sH (bS rfl rfl (N (gT:=gT) (oT:=oT) ad _ aA aA (by assumption))) rfl ?_;refine Y7 ?_
   refine bx 14 _ rfl (kl [0,3,5,8,11,15,24,25,26]) ?_;refine ar fun aX ae=>Y4 ?_;refine cO b (fun ag b=>?_) (fun ag b=>?_)
   ·refine Y6 ?_;refine ry ?_;have b:=ku B b;obtain rfl:=oJ b;refine bH.b9 (cS H c0 (Z1.c I.2.2)) rfl ⟨rfl,rfl⟩ ?_;intro q ai m;have aj:q≠f:=fun g=>by subst g; simp_all [af.set]
    rw [<- m];simp only [af.set] at m ⊢;(repeat' split)<;>simp_all
   refine sk ae (Y5 ?_);obtain⟨J,al,b⟩:=qO rfl b;refine SH (am Z9.c (TK rfl) rfl (TK rfl) (TK rfl) al) ?_;refine Y3 ?_;refine Z _ ?_;refine Y4 ?_;exact W _ ((C+1),I.2.2,F,(Z9.mk k.ak k.bz k.br J.nl J.l k.aW)) wA b (dl G)
  rw [pE] at b;have b:=ku B b;refine ah.exit ?_;obtain⟨aY,an,b⟩:=bW b;exact U _ (E,F,k) wA (ku an b:)
 rintro ⟨ao,aZ,ap⟩ b;refine ar fun a1 au=>ah.cq 1 _ rfl (fun j w cs hh hx=>iE 3 hx rfl) ?_;refine ah.cq 1 (Z9.c ap) rfl (fun j w cs hh hx=>by rw [Z9.l8]; exact hx) ?_;refine Y5 ?_;refine au _ ?_;refine ry ?_;obtain rfl:=oJ b;refine bH.b9 (cS H c0 (Z1.c ao)) rfl ⟨rfl,rfl⟩ ?_;intro q ai m;have aj:q≠f:=fun g=>by subst g; simp_all [af.set]
 rw [<- m];simp only [af.set] at m ⊢;(repeat' split)<;>simp_all
theorem WV (n:Nat) (aj:xB (av:=av) n) (bm:xC (av:=av) n) (bo:xD (av:=av) n) (al:xE (av:=av) n):xD (av:=av) (n+1):=by
 intro a0 q u G oT c0 gT r b H bX bp am;rw [uZ] at b;refine AC.oW 124 [.cell 8 72,.tmp 9] Tryz.call166 Tryz.func166 ?_;have bq:gT≠c0:=fun p=>by subst p; obtain⟨_,_,_,bs,_⟩:=am; simp_all
 refine hz (cS H c0 (Z1.c a0)) (Y6 ?_);refine ar fun bt an=>Y5 ?_;refine cE b (fun ao b=>?_) (fun ao b=>?_)
 ·refine Y5 ?_;exact rt b
 refine sk an (cT (tl [0,3,5,6,8]) (fun(z:Z9)=>[]) (fun z=>[Z9.c z]) (fun z=>(cS H c0 (Z1.c a0))) (fun z=>(Option.bind (iy q u G (fR n) (jt n) q.ay.l 0 a0 (Z9.mk 6 0 [] true [] Sl.nil)) fun ap=>match ap with|Sum.inl U=>(on ((U.1,U.2)) fun W=>some (W.2,(0:Int),W.1))|Sum.inr au=>(some au))=some r) ?_ ?_)
 ·intro bu aw;refine Y3 ?_;refine aT aB u.aW fun bv=>Y3 ?_;obtain⟨X,Y,b⟩:=bW b;refine eZ (tl [0,3,5,6,8,28,29]) (fun(z:Nat×Z9)=>[(30,vi z.1)]) (fun z=>[Z9.c z.2]) (fun z=>(cS H c0 (Z1.c a0))) (fun z=>u.aW.l.length-z.1) (fun z=>X (qI a0 q (u.aW.l.drop z.1) )=some r) (0,Z9.zero) b wA ?_;rintro ⟨Z,ab⟩ b bw ax;try dsimp only at b
  refine Y3 ?_;refine ar fun bA az=>?_;refine ah.bL (fun l=>X (qI a0 q l )=some r) b rfl (fun bB ad N b=>?_) (fun N b=>?_)
  ·rw [qI] at b;try dsimp only at N
   have bC:=oD N;refine sk az (ar fun bD aC=>Y2 ?_);obtain⟨bE,aD,b⟩:=vP ad b;refine S (ix aB Z aD) (Y7 ?_);obtain⟨bF,aE,b⟩:=vP rfl b;refine Sc rfl rfl (CA aE) (Y7 ?_);refine bx 12 _ rfl (kl [0,3,5,6,8,13,28,29,30]) ?_;refine Y4 ?_;refine cP b (fun aF b=>?_) (fun aF b=>?_)
   ·refine Y5 ?_;exact rs (ku Y b:)
   refine sk aC (Y4 ?_);exact ax _ ((Z+1),ab) wA b (dl ad)
  rw [qI] at b;have b:=ku Y b;try dsimp only at b
  refine ah.exit ?_;obtain⟨bG,aH,b⟩:=bW b;exact aw _ ab wA (ku aH b:)
 rintro aI b;try dsimp only at b
 refine Y3 ?_;refine aJ.tok 5 fun k ae=>?_;obtain⟨bJ,ae⟩:=af.dW ae;have bK:k≠gT:=fun p=>by subst p; simp_all
 refine aJ.cq 1 _ rfl (fun j w cs hh hx=>tok_cell 3 5 5 hh (t:=k) aA hx rfl) ?_;refine aJ.tok 1 fun m I=>?_;obtain⟨bM,I⟩:=af.dW I;obtain⟨bN,I⟩:=af.dW I;have bO:m≠gT:=fun p=>by subst p; simp_all
 refine aJ.cq 1 _ rfl (fun j w cs hh hx=>tok_cell 4 1 1 hh (t:=m) aA hx rfl) ?_;refine Y1 ?_;refine aJ.cq 1 _ rfl (fun j w cs hh hx=>tok_cell 3 5 5 hh (t:=k) aA hx rfl) ?_;refine aJ.cq 1 _ rfl (fun j w cs hh hx=>tok_cell 4 1 1 hh (t:=m) aA hx rfl) ?_;refine Y1 ?_
 refine cT (tl [8,14]) (fun(z:Z1×Z9×Z9)=>[]) (fun z=>[Z9.c z.2.1,((bI .i64) z.2.2.ak++(bI .i64) z.2.2.bz++aB z.2.2.br++[Sl.d 5 Z9.c (some k) z.2.2.aG]++[Sl.d 1 aB (some m) z.2.2.aW])]) (fun z=>((tS (cS H c0 (Z1.c z.1)) k 5 z.2.2.aG).set m (some (.tok 1 z.2.2.aW.l.length)))) (fun z=>(some (z.2.2,(0:Int),z.1))=some r) ?_ ?_
 ·intro bP aK;refine Y3 ?_;refine aT Z7.c q.ay fun bQ=>Y3 ?_;obtain⟨J,ag,b⟩:=bZ b
  refine eZ (tl [0,3,5,6,8,14,47,48]) (fun(z:Nat×Z1×Z9×Z9)=>[(49,vi z.1)]) (fun z=>[Z9.c z.2.2.1,((bI .i64) z.2.2.2.ak++(bI .i64) z.2.2.2.bz++aB z.2.2.2.br++[Sl.d 5 Z9.c (some k) z.2.2.2.aG]++[Sl.d 1 aB (some m) z.2.2.2.aW])]) (fun z=>((tS (cS H c0 (Z1.c z.2.1)) k 5 z.2.2.2.aG).set m (some (.tok 1 z.2.2.2.aW.l.length)))) (fun z=>q.ay.l.length-z.1) (fun z=>Option.bind (iy q u G (fR n) (jt n) (q.ay.l.drop z.1) z.1 z.2.1 z.2.2.2) J=some r) (0,a0,aI,(Z9.mk 6 0 [] true [] Sl.nil)) b wA ?_
  rintro ⟨s,y,B,g⟩ b bR aL;try dsimp only at b
  refine Y3 ?_;refine ar fun bT aM=>?_;refine ah.bL (fun l=>Option.bind (iy q u G (fR n) (jt n) l s y g) J=some r) b rfl (fun bU ai O b=>?_) (fun O b=>?_)
  ·rw [iy] at b;try dsimp only at O
   have bV:=oD O;refine sk aM ?_
   refine cT (tl [0,3,5,6,8,14,47,48,49]) (fun(z:Z1×Z9×Z9)=>[]) (fun z=>[Z9.c z.2.1,((bI .i64) z.2.2.ak++(bI .i64) z.2.2.bz++aB z.2.2.br++[Sl.d 5 Z9.c (some k) z.2.2.aG]++[Sl.d 1 aB (some m) z.2.2.aW])]) (fun z=>((tS (cS H c0 (Z1.c z.1)) k 5 z.2.2.aG).set m (some (.tok 1 z.2.2.aW.l.length)))) (fun z=>Option.bind (iy q u G (fR n) (jt n) (q.ay.l.drop (s+1)) (s+1) z.1 z.2.2) J=some r) ?_ ?_
   ·intro bY P;refine Y3 ?_;obtain⟨aP,aQ,b⟩:=vO ai b;refine S (ix Z7.c s aQ) (Y5 ?_);refine bx 16 _ rfl (kl [0,3,5,6,8,14,15,47,48,49]) ?_;refine ar fun b0 aR=>Y4 ?_;obtain⟨b1,aU,b⟩:=vO (Q.uv (by omega)) b;refine aN.s0 (lg (f:=Z7.c) (l:=none) (r:=(some ((s:Nat):Int))) (TK rfl) rfl (TK rfl) rfl rfl trivial rfl aU) rfl ?_;refine Y2 ?_;obtain⟨b2,aV,b⟩:=vO rfl b
    refine cH rfl rfl (CA aV) (Y7 ?_);refine bx 17 _ rfl (kl [0,3,5,6,8,14,16,18,47,48,49]) ?_;refine Y3 ?_;obtain⟨_,rfl,b⟩:=mO b;refine cO b (fun aX b=>?_) (fun aX b=>?_)
    ·refine ah.exit ?_;exact P _ (y,B,g) wA b
    refine sk aR (Y4 ?_);obtain⟨b3,aY,b⟩:=qO rfl b;refine Sc rfl rfl (FP aY) (Y7 ?_);refine bx 19 _ rfl (kl [0,3,5,6,8,14,16,20,47,48,49]) ?_;refine Y6 ?_
    refine cT (tl [0,3,5,6,8,14,16,21,47,48,49]) (fun(z:Int×Z1×Z9)=>[(22,.a (.d (.int .i64 z.1)))]) (fun z=>[Z9.c B,((bI .i64) g.ak++(bI .i64) g.bz++aB g.br++[Sl.d 5 Z9.c (some k) g.aG]++[Sl.d 1 aB (some m) g.aW]),Z9.c z.2.2]) (fun z=>((tS (cS H c0 (Z1.c z.2.1)) k 5 g.aG).set m (some (.tok 1 g.aW.l.length)))) (fun z=>Option.bind (bif (!decide (z.1=(0:Int))) then(some (Sum.inr ((Z9.mk 0 0 [] true [] Sl.nil),z.1,z.2.1))) else((bf 16 g.aW (⟨false,[aP.aa]⟩:Sl Bs)).bind fun C=>(bf 80 g.aG (⟨false,[z.2.2]⟩:Sl Z9)).bind fun v=>(iy q u G (fR n) (jt n) (q.ay.l.drop (s+1)) (s+1) z.2.1 (Z9.mk g.ak g.bz g.br v.nl v.l C)))) J=some r) ?_ ?_
    ·intro b4 R;refine Y6 ?_;obtain⟨b5,aZ,b⟩:=e8 rfl b;refine e9 75 76 rfl rfl (fun hC=>eY rfl rfl (MQ (aZ hC) _ aA)) ?_;refine Gk 77 ?_;refine Y3 ?_;obtain⟨_,rfl,b⟩:=mO b;refine cO b (fun a1 b=>?_) (fun a1 b=>?_)
     ·refine Y6 ?_;obtain⟨b6,a2,b⟩:=qO rfl b;refine S (eC a2) ?_;obtain⟨K,a3,b⟩:=qO rfl b;refine sH (bS rfl rfl (aj (gT:=gT) (oT:=oT) a3 _ aA aA (by assumption))) rfl ?_;refine hq ((tS (cS H c0 (Z1.c K.2.2)) k 5 g.aG).set m (some (.tok 1 g.aW.l.length))) (Y6 ?_);exact R _ (K.2.1,K.2.2,K.1) wA b
     refine Y5 ?_;refine cO b (fun a4 b=>?_) (fun a4 b=>?_)
     ·refine Y4 ?_;obtain⟨b7,a5,b⟩:=qO rfl b;refine S (eC a5) ?_;obtain⟨L,a6,b⟩:=qO rfl b;refine sH (bS rfl rfl (al (gT:=gT) (oT:=oT) a6 _ aA aA (by assumption))) rfl ?_;refine hq ((tS (cS H c0 (Z1.c L.2.2)) k 5 g.aG).set m (some (.tok 1 g.aW.l.length))) (Y6 ?_);exact R _ (L.2.1,L.2.2,L.1) wA b
     refine Y3 ?_;obtain⟨b8,a7,b⟩:=vO rfl b;refine Sc rfl rfl (tQ a7) (Y2 ?_);refine cO b (fun a8 b=>?_) (fun a8 b=>?_)
     ·refine Y3 ?_;exact R _ ((22:Int),y,Z9.zero) wA b
     refine ah.exit ?_;exact P _ (y,B,g) wA b
    rintro ⟨b_,M,b'⟩ b;try dsimp only at b
    refine ar fun ca a9=>Y4 ?_;refine cO b (fun a_ b=>?_) (fun a_ b=>?_)
    ·refine Y6 ?_;refine ry ?_;have b:=ku ag b;obtain rfl:=oJ b;refine bH.b9 (cS H c0 (Z1.c M)) rfl ⟨rfl,rfl⟩ ?_;intro E a' F;have ba:E≠k:=fun p=>by subst p; simp_all [af.set]
     have bb:E≠m:=fun p=>by subst p; simp_all [af.set]
     rw [<- F];simp only [af.set] at F ⊢;(repeat' split)<;>simp_all
    refine sk a9 (ah.draw rfl ?_);refine Y5 ?_;obtain⟨C,bc,b⟩:=qO rfl b;refine aN.sH (iM (f:=aB) (TK rfl) rfl (TK rfl) (TK rfl) ⟨_,rfl⟩ rfl rfl (by decide) rfl rfl rfl rfl aA rfl bc) rfl ?_;refine aN.Dh ((tS (cS H c0 (Z1.c M)) k 5 g.aG).set m (some (.tok 1 C.l.length))) ?_;refine Y4 ?_;obtain⟨v,bd,b⟩:=qO rfl b
    refine aN.sH (iM (f:=Z9.c) (TK rfl) rfl (TK rfl) (TK rfl) ⟨_,rfl⟩ rfl rfl (by decide) rfl rfl rfl rfl aA rfl bd) rfl ?_;refine aN.Dh ((tS (cS H c0 (Z1.c M)) k 5 v).set m (some (.tok 1 C.l.length))) ?_;refine Y1 ?_;refine aN.gD (jC (TK rfl) rfl rfl rfl rfl (by repeat (first|exact bn.zero|apply bn.succ)) (by repeat (first|exact bn.zero|apply bn.succ))) ?_;refine Y1 ?_
    refine aN.gD (jC (TK rfl) rfl rfl rfl rfl (by repeat (first|exact bn.zero|apply bn.succ)) (by repeat (first|exact bn.zero|apply bn.succ))) ?_;refine Y1 ?_;exact P _ (M,B,(Z9.mk g.ak g.bz g.br v.nl v.l C)) wA b
   rintro ⟨be,bg,bh⟩ b;try dsimp only at b
   refine Y4 ?_;exact aL _ ((s+1),be,bg,bh) wA b (dl ai)
  rw [iy] at b;have b:=ku ag b;try dsimp only at b
  refine ah.exit ?_;obtain⟨cb,bi,b⟩:=bW b;exact aK _ (y,B,g) wA (ku bi b:)
 rintro ⟨bj,cc,bk⟩ b;try dsimp only at b
 refine ar fun cd bl=>ah.cq 1 _ rfl (fun j w cs hh hx=>iE 3 hx rfl) ?_;refine ah.cq 1 _ rfl (fun j w cs hh hx=>iE 4 hx rfl) ?_;refine ah.cq 1 (Z9.c bk) rfl (fun j w cs hh hx=>by rw [Z9.l8]; exact hx) ?_;refine Y5 ?_;refine bl _ ?_;refine ry ?_;obtain rfl:=oJ b;refine bH.b9 (cS H c0 (Z1.c bj)) rfl ⟨rfl,rfl⟩ ?_;intro E a' F
 have ba:E≠k:=fun p=>by subst p; simp_all [af.set]
 have bb:E≠m:=fun p=>by subst p; simp_all [af.set]
 rw [<- F];simp only [af.set] at F ⊢;(repeat' split)<;>simp_all
theorem WW (n:Nat) (j:xB (av:=av) n) (v:xC (av:=av) n) (w:xD (av:=av) n) (y:xE (av:=av) n):xE (av:=av) (n+1):=by
 intro a0 J K oT c0 gT r b H bX z k;rw [jt] at b;apply AC.OZ (fn:=Tryz.f188) (c:=_) Tryz.bN (fun _ _=>Tryz.call188 _ _) Tryz.func188 rfl (n:=35) rfl (rs:=[.cell 6 72,.tmp 7]) rfl rfl;have B:gT≠c0:=fun f=>by subst f; obtain⟨_,_,_,C,_⟩:=k; simp_all
 refine gw.jR (h':=(cS H c0 (Z1.c a0))) (by funext n_; simp only [af.set]; (repeat' split)<;>simp_all) ?_;refine gw.ar fun E l=>?_;refine Y6 ?_;refine l _ ?_;refine gw.ar fun F m=>?_;refine ah.draw rfl ?_;refine DQ ?_;refine aN.gD (jC (TK rfl) rfl rfl rfl rfl (by repeat (first|exact bn.zero|apply bn.succ)) (by repeat (first|exact bn.zero|apply bn.succ))) ?_;refine Y1 ?_
 refine m _ ?_;refine gw.freeze 9 _ rfl (by repeat (first|exact ee.nil|apply ee.cons)) (kl [2,3,4,6,8]) ?_;refine gw.freeze 8 _ rfl (by repeat (first|exact ee.nil|apply ee.cons)) (kl [2,3,4,6,9]) ?_;refine gw.ar fun G p=>?_;refine ah.draw rfl ?_;refine Y5 ?_;refine aN.dG (ue (TK rfl) rfl rfl aA rfl (Nat.le_of_ble_eq_true rfl) rfl rfl) rfl rfl ?_;refine Y2 ?_
 refine aN.dG (gv (TK rfl) rfl rfl aA rfl (by repeat (first|exact bn.zero|apply bn.succ))) rfl rfl ?_;refine Y1 ?_;refine p _ ?_;refine gw.done ⟨_,rfl,rfl,fun fS=>?_⟩;refine Y7 ?_;obtain⟨x5,q,b⟩:=qT rfl b;refine sH (bS rfl rfl (j (gT:=gT) (oT:=oT) q _ aA aA (by assumption))) rfl ?_;refine Y5 ?_;obtain⟨s,t,b⟩:=vT rfl b;refine ah.ret ?_
 repeat (first|refine yc ?_|refine yd ?_|refine fW ?_|refine fV ?_|refine fU ?_)
 refine⟨.inr rfl, ?_⟩;obtain rfl:=oJ b;refine p_.mono (WJ t _ aA) fun _ _ ⟨_,f⟩=>?_;subst f;refine⟨_,(cS H c0 (Z1.c s)),rfl, ?_,⟨rfl,rfl⟩⟩;refine fun u I g=>?_;rw [<- g];clear g;exact congrFun (by first|rfl|exact(af.set_set _ _ _ _).symm|(rw [af.set_set]; rfl)|(funext n_; simp only [af.set]; (repeat' split)<;>first|rfl|(exfalso; simp_all; done)|(simp_all; done))) u
theorem jy:∀(n:Nat),(xB (av:=av) n)/\(xC (av:=av) n)/\(xD (av:=av) n)/\(xE (av:=av) n)
 | 0=>⟨fun b=>by first|cases b|(rw [fR] at b; cases b),fun b=>by first|cases b|(rw [uY] at b; cases b),fun b=>by first|cases b|(rw [uZ] at b; cases b),fun b=>by first|cases b|(rw [jt] at b; cases b)⟩
 | n+1=>⟨WT n (jy n).1 (jy n).2.1 (jy n).2.2.1 (jy n).2.2.2,WU n (jy n).1 (jy n).2.1 (jy n).2.2.1 (jy n).2.2.2,WV n (jy n).1 (jy n).2.1 (jy n).2.2.1 (jy n).2.2.2,WW n (jy n).1 (jy n).2.1 (jy n).2.2.1 (jy n).2.2.2⟩
def WX (a0:Z1) (a1:aL) (a2:Z9) (a3:Int):Option (Z9×Int×Z1):=fR F0 a0 a1 a2 a3
theorem WY {a0 b f g oT c0 gT r}(j:WX a0 b f g=some r) (H:af) (bX:H c0=some (.cells (Z1.c a0))) (k:H gT=some oT) (l:iq Tryz.prog oT):AC Tryz.prog 132 [.d (.ptr c0 0),.agg (aL.c b),.agg (Z9.c f),.d (.int .i64 g)] H fun v h'=>v=.cI [.agg (Z9.c r.1),.d (.int .i64 r.2.1)]/\h'=(cS H c0 (Z1.c r.2.2)):=(jy F0).1 j H bX k l
def EQ (a0:Z1) (b:aL) (f:Z9) (g:Int):Option (Z9×Int×Z1):=fR F0 a0 b f g
end Go.Proofs
