import Derived.Test.YtdlobimnfmjonaaGreatDoorV8
set_option maxRecDepth 100000
set_option maxHeartbeats 2000000
set_option linter.unusedVariables false
set_option linter.unusedSimpArgs false
namespace Go.Proofs
open Go Go.Ab
open aJ aq ah dN fT
attribute [local irreducible] aJ aN ah aq
variable {av:bR}
def Ng (a0:Bs):(Sl aD):=(⟨false,[(aD.mk [116,97,103] (⟨false,[(bU.mk [110,97,109,101] (Z9.mk 3 0 a0 true [] Sl.nil))]⟩:Sl bU))]⟩:Sl aD)
def Gc (a0:Bs):Option (Sl aD):=some (Ng a0)
theorem Xx {a0 r}(b:Gc a0=some r) (H:af) :AC Tryz.prog 16 [.d (.str a0)] H (RT (.a (.d (Sl.d 2 aD.c none r))) H):=by
 unfold Gc Ng at b;refine AC.oW 9 [.tmp 2] Tryz.call16 Tryz.func16 ?_;refine Y1 ?_;refine s0 (di (k':=2) rfl) rfl ?_;refine oI ?_;exact rt b
def xL (g:ai) (f:Bs->ai->(List Bs)->Option (List Bs)):List Z7->(List Bs)->Option ((List Bs))
 | [],b=>some b
 | j::k,b=>on (j) fun l=>(f l.ax.aa g b).bind fun m=>xL g f (k) m
def vj (g:ai) (b:Bs->ai->(List Bs)->Option (List Bs)):List Z6->(List Bs)->Option ((List Bs))
 | [],f=>some f
 | k::m,f=>on (k) fun j=>(b j.ax.aa g f).bind fun p=>Option.bind (xL g b j.az.l p) fun q=>on (q) fun r=>vj g b (m) r
def vk (g:ai) (f:Bs->ai->(List Bs)->Option (List Bs)):List Z7->(List Bs)->Option ((List Bs))
 | [],b=>some b
 | j::k,b=>on (j) fun l=>(f l.ax.aa g b).bind fun m=>vk g f (k) m
def rz (j:ai) (f:(ag×Bool)) (g:Bs->ai->(List Bs)->Option (List Bs)):List Z8->(List Bs)->Option ((List Bs))
 | [],b=>some b
 | k::l,b=>on (k) fun m=>Option.bind (bif (decide (f.1.ak=(3:Int))) then((g m.aa j b).bind fun p=>some p) else(some b)) fun q=>rz j f g (l) q
def rA (g:ai) (f:Bs->ai->(List Bs)->Option (List Bs)):List Bs->(List Bs)->Option ((List Bs))
 | [],b=>some b
 | j::k,b=>on (j) fun l=>(f l g b).bind fun m=>rA g f (k) m
def ox (a0:Bs) (k:ai) (f:(ag×Bool)) (g:Bs->ai->(List Bs)->Option (List Bs)):List ag->(List Bs)->Option ((List Bs))
 | [],b=>some b
 | l::m,b=>on (l) fun j=>on (bif (decide (f.1.ak=(2:Int))) then lE j.aH a0 else false) fun p=>Option.bind (bif ((decide (f.1.ak=(2:Int)))&&p) then((g j.aa k b).bind fun q=>some q) else(some b)) fun r=>ox a0 k f g (m) r
def eS:Nat->Bs->ai->(List Bs)->Option (List Bs)
 | 0,_,_,_=>none
 | n+1,a0,f,g=>on (fL f a0) fun b=>bif ((!b.2)||(g.contains a0)) then(some g) else(Option.bind (vj f (eS n) b.1.an.l (cw g a0)) fun j=>on (j) fun k=>Option.bind (vk f (eS n) b.1.ay.l k) fun m=>on (m) fun p=>Option.bind (rz f b (eS n) b.1.au.l p) fun q=>on (q) fun r=>Option.bind (rA f (eS n) b.1.aH.l r) fun s=>on (s) fun t=>Option.bind (ox a0 f b (eS n) f.aj.l t) fun u=>some u)
def Ge (n:Nat):Prop:=∀{a0:Bs}{a1:ai}{a2:(List Bs)}  {c2:Nat}{c3:Nat}{r:(List Bs)},eS n a0 a1 a2=some r->∀(H:af) (b:H c2=some (.map (bK a2))) (f:H c3=some (.cells [.func 31 [.view (ai.c a1),.view [.map c2],.ptr c3 0]])),AC Tryz.prog 31 [.d (.str a0),.d (.view (ai.c a1)),.d (.view [.map c2]),.d (.ptr c3 0)] H fun v h'=>v=.cI []/\h'=(H.set c2 (some (.map (bK r))))
theorem Xy (n:Nat) (q:Ge (av:=av) n):Ge (av:=av) (n+1):=by
 intro a0 f ad  c2 c3 r b H bI bJ;rw [eS] at b;refine AC.oW 120 [] Tryz.call31 Tryz.func31 ?_;have bM:c3≠c2:=fun ae=>by subst ae; simp_all
 refine hz (H.set c2 (some (.map (bK ad)))) (Y3 ?_);obtain⟨g,ai,b⟩:=vT rfl b;refine Sc rfl rfl (oo ai) (Y7 ?_);refine bx 5 _ rfl (kl [0,1,2,3,6]) ?_;refine ar fun bN ak=>Y6 ?_;refine e9 28 29 rfl rfl (fun hC=>uk (TK rfl) rfl (TK rfl) (TK rfl) rfl rfl rfl rfl aA) ?_;refine Y2 ?_;refine cE b (fun al b=>?_) (fun al b=>?_)
 ·exact rt b
 refine sk ak (Y3 ?_);refine dG (mapUpdate (TK rfl) rfl (TK rfl) rfl rfl rfl rfl aA (rK _ _) rfl) rfl rfl ?_;refine Y1 ?_
 refine aR (tl [0,1,3,5]) (fun(z:(List Bs))=>[]) (fun z=>(H.set c2 (some (.map (bK z))))) (fun z=>(Option.bind (vk f (eS n) g.1.ay.l z) fun t=>on (t) fun u=>Option.bind (rz f g (eS n) g.1.au.l u) fun m=>on (m) fun s=>Option.bind (rA f (eS n) g.1.aH.l s) fun k=>on (k) fun p=>Option.bind (ox a0 f g (eS n) f.aj.l p) fun j=>some j)=some r) ?_ ?_
 ·intro bO am;refine Y3 ?_;refine aT Z6.c g.1.an fun bP=>Y3 ?_;obtain⟨v,ao,b⟩:=bZ b;refine bD (tl [0,1,3,5,35,36]) (fun(z:Nat×(List Bs))=>[(37,vi z.1)]) (fun z=>(H.set c2 (some (.map (bK z.2))))) (fun z=>g.1.an.l.length-z.1) (fun z=>Option.bind (vj f (eS n) (g.1.an.l.drop z.1) z.2) v=some r) (0,(cw ad a0)) b wA ?_;rintro ⟨w,G⟩ b bQ ap;refine Y3 ?_
  refine ar fun bR aw=>?_;refine ah.bL (fun l=>Option.bind (vj f (eS n) l G) v=some r) b rfl (fun bT I ax b=>?_) (fun ax b=>?_)
  ·rw [vj] at b;refine sk aw (aR (tl [0,1,3,5,35,36,37]) (fun(z:(List Bs))=>[]) (fun z=>(H.set c2 (some (.map (bK z))))) (fun z=>Option.bind (vj f (eS n) (g.1.an.l.drop (w+1)) z) v=some r) ?_ ?_)
   ·intro bU aC;refine Y2 ?_;obtain⟨y,aD,b⟩:=vO I b;refine S (ix Z6.c w aD) (Y4 ?_);refine bx 8 _ rfl (kl [0,1,3,5,35,36,37]) ?_;refine Y5 ?_;obtain⟨aE,aF,b⟩:=qO rfl b;refine sH (bS rfl rfl (q aF _ aA aA)) rfl ?_;refine Y4 ?_;refine aT Z7.c y.az fun bV=>Y3 ?_;obtain⟨J,aG,b⟩:=cM b
    refine bD (tl [0,1,3,5,35,36,37,47,48]) (fun(z:Nat×(List Bs))=>[(49,vi z.1)]) (fun z=>(H.set c2 (some (.map (bK z.2))))) (fun z=>y.az.l.length-z.1) (fun z=>Option.bind (xL f (eS n) (y.az.l.drop z.1) z.2) J=some r) (0,aE) b wA ?_;rintro ⟨K,L⟩ b bX aI;refine Y3 ?_;refine ar fun bY aK=>?_
    refine ah.bL (fun l=>Option.bind (xL f (eS n) l L) J=some r) b rfl (fun b0 M aL b=>?_) (fun aL b=>?_)
    ·rw [xL] at b;refine sk aK (ar fun b1 aM=>Y2 ?_);obtain⟨b2,aP,b⟩:=vO M b;refine S (ix Z7.c K aP) (Y4 ?_);refine bx 10 _ rfl (kl [0,1,3,5,35,36,37,47,48,49]) ?_;refine Y5 ?_;obtain⟨aQ,aU,b⟩:=qO rfl b;refine sH (bS rfl rfl (q aU _ aA aA)) rfl ?_;refine Y1 ?_;refine aM _ ?_;refine Y4 ?_;exact aI _ ((K+1),aQ) wA b (dl M)
    rw [xL] at b;have b:=ku aG b;refine ah.exit ?_;obtain⟨b3,aV,b⟩:=gM b;exact aC _ L wA (ku aV b:)
   rintro aW b;refine Y4 ?_;exact ap _ ((w+1),aW) wA b (dl I)
  rw [vj] at b;have b:=ku ao b;refine ah.exit ?_;obtain⟨b4,aX,b⟩:=bW b;exact am _ G wA (ku aX b:)
 rintro aY b;refine aR (tl [0,1,3,5]) (fun(z:(List Bs))=>[]) (fun z=>(H.set c2 (some (.map (bK z))))) (fun z=>(Option.bind (rz f g (eS n) g.1.au.l z) fun m=>on (m) fun s=>Option.bind (rA f (eS n) g.1.aH.l s) fun k=>on (k) fun p=>Option.bind (ox a0 f g (eS n) f.aj.l p) fun j=>some j)=some r) ?_ ?_
 ·intro b5 aZ;refine Y3 ?_;refine aT Z7.c g.1.ay fun b6=>Y3 ?_;obtain⟨N,a1,b⟩:=bZ b;refine bD (tl [0,1,3,5,61,62]) (fun(z:Nat×(List Bs))=>[(63,vi z.1)]) (fun z=>(H.set c2 (some (.map (bK z.2))))) (fun z=>g.1.ay.l.length-z.1) (fun z=>Option.bind (vk f (eS n) (g.1.ay.l.drop z.1) z.2) N=some r) (0,aY) b wA ?_;rintro ⟨O,t⟩ b b7 a2;refine Y3 ?_
  refine ar fun b8 a3=>?_;refine ah.bL (fun l=>Option.bind (vk f (eS n) l t) N=some r) b rfl (fun b_ P a4 b=>?_) (fun a4 b=>?_)
  ·rw [vk] at b;refine sk a3 (ar fun b' a5=>Y2 ?_);obtain⟨ca,a6,b⟩:=vO P b;refine S (ix Z7.c O a6) (Y4 ?_);refine bx 12 _ rfl (kl [0,1,3,5,61,62,63]) ?_;refine Y5 ?_;obtain⟨a7,a8,b⟩:=qO rfl b;refine sH (bS rfl rfl (q a8 _ aA aA)) rfl ?_;refine Y1 ?_;refine a5 _ ?_;refine Y4 ?_;exact a2 _ ((O+1),a7) wA b (dl P)
  rw [vk] at b;have b:=ku a1 b;refine ah.exit ?_;obtain⟨cb,a9,b⟩:=bW b;exact aZ _ t wA (ku a9 b:)
 rintro u b;refine aR (tl [0,1,3,5]) (fun(z:(List Bs))=>[]) (fun z=>(H.set c2 (some (.map (bK z))))) (fun z=>(Option.bind (rA f (eS n) g.1.aH.l z) fun k=>on (k) fun p=>Option.bind (ox a0 f g (eS n) f.aj.l p) fun j=>some j)=some r) ?_ ?_
 ·intro cc a_;refine Y3 ?_;refine aT Z8.c g.1.au fun cd=>Y3 ?_;obtain⟨B,a',b⟩:=bZ b;refine bD (tl [0,1,3,5,74,75]) (fun(z:Nat×(List Bs))=>[(76,vi z.1)]) (fun z=>(H.set c2 (some (.map (bK z.2))))) (fun z=>g.1.au.l.length-z.1) (fun z=>Option.bind (rz f g (eS n) (g.1.au.l.drop z.1) z.2) B=some r) (0,u) b wA ?_;rintro ⟨C,m⟩ b ce ba;refine Y3 ?_
  refine ar fun cf bb=>?_;refine ah.bL (fun l=>Option.bind (rz f g (eS n) l m) B=some r) b rfl (fun cg Q bc b=>?_) (fun bc b=>?_)
  ·rw [rz] at b;refine sk bb (aR (tl [0,1,3,5,74,75,76]) (fun(z:(List Bs))=>[]) (fun z=>(H.set c2 (some (.map (bK z))))) (fun z=>Option.bind (rz f g (eS n) (g.1.au.l.drop (C+1)) z) B=some r) ?_ ?_)
   ·intro ch R;refine Y2 ?_;obtain⟨ci,bd,b⟩:=vO Q b;refine S (ix Z8.c C bd) (Y4 ?_);refine bx 14 _ rfl (kl [0,1,3,5,74,75,76]) ?_;refine Y5 ?_;obtain⟨cj,U,b⟩:=cM b;refine cO b (fun be b=>?_) (fun be b=>?_)
    ·refine Y4 ?_;obtain⟨bf,bg,b⟩:=qO rfl b;refine sH (bS rfl rfl (q bg _ aA aA)) rfl ?_;refine Y1 ?_;exact R _ bf wA (ku U b:)
    refine ah.skip ?_;exact R _ m wA (ku U b:)
   rintro bh b;refine Y4 ?_;exact ba _ ((C+1),bh) wA b (dl Q)
  rw [rz] at b;have b:=ku a' b;refine ah.exit ?_;obtain⟨ck,bi,b⟩:=bW b;exact a_ _ m wA (ku bi b:)
 rintro s b;refine aR (tl [0,1,3,5]) (fun(z:(List Bs))=>[]) (fun z=>(H.set c2 (some (.map (bK z))))) (fun z=>(Option.bind (ox a0 f g (eS n) f.aj.l z) fun j=>some j)=some r) ?_ ?_
 ·intro cl bj;refine Y3 ?_;refine aT aB g.1.aH fun cm=>Y3 ?_;obtain⟨W,bk,b⟩:=bZ b;refine bD (tl [0,1,3,5,89,90]) (fun(z:Nat×(List Bs))=>[(91,vi z.1)]) (fun z=>(H.set c2 (some (.map (bK z.2))))) (fun z=>g.1.aH.l.length-z.1) (fun z=>Option.bind (rA f (eS n) (g.1.aH.l.drop z.1) z.2) W=some r) (0,s) b wA ?_;rintro ⟨X,k⟩ b cn bl
  refine Y3 ?_;refine ar fun co bm=>?_;refine ah.bL (fun l=>Option.bind (rA f (eS n) l k) W=some r) b rfl (fun cp Y bo b=>?_) (fun bo b=>?_)
  ·rw [rA] at b;refine sk bm (ar fun cq bp=>Y2 ?_);obtain⟨cr,bq,b⟩:=vO Y b;refine S (ix aB X bq) (Y6 ?_);obtain⟨br,bs,b⟩:=qO rfl b;refine sH (bS rfl rfl (q bs _ aA aA)) rfl ?_;refine Y1 ?_;refine bp _ ?_;refine Y4 ?_;exact bl _ ((X+1),br) wA b (dl Y)
  rw [rA] at b;have b:=ku bk b;refine ah.exit ?_;obtain⟨cs,bt,b⟩:=bW b;exact bj _ k wA (ku bt b:)
 rintro p b;refine Y3 ?_;refine aT ag.c f.aj fun cu=>Y3 ?_;obtain⟨E,bu,b⟩:=bZ b;refine bD (tl [0,3,5,100,101]) (fun(z:Nat×(List Bs))=>[(102,vi z.1)]) (fun z=>(H.set c2 (some (.map (bK z.2))))) (fun z=>f.aj.l.length-z.1) (fun z=>Option.bind (ox a0 f g (eS n) (f.aj.l.drop z.1) z.2) E=some r) (0,p) b wA ?_;rintro ⟨F,j⟩ b cv bv;refine Y3 ?_
 refine ar fun cx bw=>?_;refine ah.bL (fun l=>Option.bind (ox a0 f g (eS n) l j) E=some r) b rfl (fun cy Z bz b=>?_) (fun bz b=>?_)
 ·rw [ox] at b;refine sk bw (aR (tl [0,3,5,100,101,102]) (fun(z:(List Bs))=>[]) (fun z=>(H.set c2 (some (.map (bK z))))) (fun z=>Option.bind (ox a0 f g (eS n) (f.aj.l.drop (F+1)) z) E=some r) ?_ ?_)
  ·intro cz aa;refine Y2 ?_;obtain⟨cA,bA,b⟩:=vO Z b;refine S (ix ag.c F bA) (Y4 ?_);refine bx 18 _ rfl (kl [0,3,5,100,101,102]) ?_;refine Y6 ?_;refine Gk 110 ?_;refine Y1 ?_;obtain⟨cB,bB,b⟩:=ej (fun _=>rfl) b;refine fE 111 112 rfl rfl rfl rfl rfl rfl (fun hC=>xm (bB hC)) ?_;refine Y2 ?_;obtain⟨cC,ab,b⟩:=cM b;refine cO b (fun bC b=>?_) (fun bC b=>?_)
   ·refine Y4 ?_;obtain⟨bE,bF,b⟩:=qO rfl b;refine sH (bS rfl rfl (q bF _ aA aA)) rfl ?_;refine Y1 ?_;exact aa _ bE wA (ku ab b:)
   refine ah.skip ?_;exact aa _ j wA (ku ab b:)
  rintro bG b;refine Y4 ?_;exact bv _ ((F+1),bG) wA b (dl Z)
 rw [ox] at b;have b:=ku bu b;refine ah.exit ?_;repeat (first|refine fW ?_|refine fV ?_|refine fU ?_)
 obtain rfl:=oJ b;refine bH.gm (H.set c2 (some (.map (bK j)))) (xs:=[]) rfl ⟨rfl,rfl⟩ ?_;exact(fun _ _ h=>h)
theorem Nh:∀(n:Nat),(Ge (av:=av) n)
 | 0=>fun b=>by first|cases b|(rw [eS] at b; cases b)
 | n+1=>Xy n (Nh n)
def Ni (a0:Bs) (b:ai) (f:(List Bs)):Option (List Bs):=eS F0 a0 b f
theorem Xz {a0 b f c2 c3 r}(g:Ni a0 b f=some r) (H:af) (j:H c2=some (.map (bK f))) (k:H c3=some (.cells [.func 31 [.view (ai.c b),.view [.map c2],.ptr c3 0]])):AC Tryz.prog 31 [.d (.str a0),.d (.view (ai.c b)),.d (.view [.map c2]),.d (.ptr c3 0)] H fun v h'=>v=.cI []/\h'=(H.set c2 (some (.map (bK r)))):=(Nh F0) g H j k
def Gf  (b:ai):Option ai:=some b
def CL (b:Nat) (f:Nat->ai->Option ai) (g:ai):Option ai:=f (b+1) g
def xM (a0:ai) (f:(List Bs)) :Nat->Nat->ai->Option ai
 | 0,_,_=>none
 | j+1,b,g=>bif (decide (((b:Nat):Int)<((a0.aj.l.length:Nat):Int))) then((a0.aj.l[b]?).bind fun k=>bif (f.contains k.aa) then((pJ (Z2.mk Sl.nil Sl.nil) k).bind fun m=>(bf 144 g.aj (⟨false,[m]⟩:Sl ag)).bind fun p=>CL b ((xM a0 f j)) (ai.mk p)) else(CL b ((xM a0 f j)) g)) else(Gf   g)
def Gg (a0:ai)  (b:(List Bs)):Option ai:=xM a0 b (a0.aj.l.length+1) 0 ai.zero
def CM (a0:ai) :Nat->Int->(List Bs)->Option ai
 | 0,_,_=>none
 | g+1,b,f=>bif (decide (b<(3:Int))) then((dh ([([81,117,101,114,121]:Bs),([77,117,116,97,116,105,111,110]:Bs),([83,117,98,115,99,114,105,112,116,105,111,110]:Bs)]:List Bs) b).bind fun j=>(Ni j a0 f).bind fun k=>(cF b (1:Int)).bind fun l=>(CM a0 g) l k) else(Gg a0  f)
def Gh (a0:ai):Option ai:=CM a0 F0 (0:Int) ([]:List Bs)
theorem XA {a0 r}(b:Gh a0=some r) (H:af) :AC Tryz.prog 17 [.agg (ai.c a0)] H (RT (.a (.agg (ai.c r))) H):=by
 unfold Gh at b;refine AC.oW 43 [.cell 2 24] Tryz.call17 Tryz.func17 ?_;refine Y5 ?_;refine sE dx.makeMap rfl (fun _ _ _ ⟨g,au,v,y,B⟩=>?_);subst v y B;refine Y3 ?_;refine bx 3 _ rfl (kl [1,2]) ?_;refine Y1 ?_;refine sE (dx.As (TK rfl) rfl) rfl (fun _ _ _ ⟨k,G,v,y,B⟩=>?_);subst v y B;obtain⟨av,G⟩:=af.dW G;refine Y2 ?_
 refine s0 (makeFunc rfl) rfl ?_;refine dG (gv (TK rfl) rfl rfl aA rfl (by repeat (first|exact bn.zero|apply bn.succ))) rfl rfl ?_;refine hq ((H.set g (some (.map (bK ([]:List Bs))))).set k (some (.cells [.func 31 [.view (ai.c a0),.view [.map g],.ptr k 0]]))) (Y1 ?_)
 refine aR (tl [1,2,3]) (fun(z:(List Bs))=>[]) (fun z=>((H.set g (some (.map (bK z)))).set k (some (.cells [.func 31 [.view (ai.c a0),.view [.map g],.ptr k 0]])))) (fun z=>Gg a0 z=some r) ?_ ?_
 ·intro aw N;refine Y1 ?_;refine s0 (O7 Tryz.bN Tryz.underlying83 rfl rfl rfl rfl rfl) rfl ?_;refine Y3 ?_
  refine bD (tl [1,2,3,4,13]) (fun(z:Nat×Int×(List Bs))=>[(14,.a (.d (.int .i64 z.2.1)))]) (fun z=>((H.set g (some (.map (bK z.2.2)))).set k (some (.cells [.func 31 [.view (ai.c a0),.view [.map g],.ptr k 0]])))) (fun z=>z.1) (fun z=>CM a0 z.1 z.2.1 z.2.2=some r) (F0,(0:Int),([]:List Bs)) b wA ?_;rintro ⟨C,ax,O⟩ b ay P;cases C with
  | zero=>cases b
  | succ C =>
    rw [CM] at b;refine Y3 ?_;refine ar fun az Q=>?_;refine cE b (fun R b=>?_) (fun R b=>?_)
    ·refine sk Q (ar fun aB U=>Y2 ?_);obtain⟨aC,W,b⟩:=bO b;refine s0 (Pt (f:=D.str) (l:=([([81,117,101,114,121]:Bs),([77,117,116,97,116,105,111,110]:Bs),([83,117,98,115,99,114,105,112,116,105,111,110]:Bs)]:List Bs)) Tryz.underlying83 Tryz.underlying9 (Tryz.bN 9 _ rfl) rfl rfl rfl rfl W) rfl ?_;refine Y5 ?_;obtain⟨I,X,b⟩:=bO b;refine sH (bS rfl rfl (Xz X _ aA aA)) rfl ?_
     refine hq ((H.set g (some (.map (bK I)))).set k (some (.cells [.func 31 [.view (ai.c a0),.view [.map g],.ptr k 0]]))) (Y1 ?_);refine U _ ?_;refine Y1 ?_;obtain⟨Y,Z,b⟩:=bO b;refine S (eC Z) (Y2 ?_);exact P _ (C,Y,I) wA b (nS _)
    refine ah.exit ?_;exact N _ O wA b
 rintro p b;unfold Gg at b;refine Y2 ?_;refine aJ.tok 7 fun m s=>?_;obtain⟨aD,s⟩:=af.dW s;obtain⟨aE,s⟩:=af.dW s;refine aJ.cq 1 _ rfl (fun j w cs hh hx=>tok_cell 0 7 7 hh (t:=m) aA hx rfl) ?_;refine Y6 ?_;refine bx 8 _ rfl (kl [1,2,3,7]) ?_
 refine cT (tl [2,7]) (fun(z:ai)=>[]) (fun z=>[ai.c ai.zero,([Sl.d 7 ag.c (some m) z.aj])]) (fun z=>(((H.set g (some (.map (bK p)))).set k (some (.cells [.func 31 [.view (ai.c a0),.view [.map g],.ptr k 0]]))).set m (some (.tok 7 z.aj.l.length)))) (fun z=>Gf z=some r) ?_ ?_
 ·intro aF aa;refine Y3 ?_;refine aT ag.c a0.aj fun aG=>Y3 ?_
  refine eZ (tl [2,3,7,8,23,24]) (fun(z:Nat×Nat×ai)=>[(25,vi z.2.1)]) (fun z=>[ai.c ai.zero,([Sl.d 7 ag.c (some m) z.2.2.aj])]) (fun z=>(((H.set g (some (.map (bK p)))).set k (some (.cells [.func 31 [.view (ai.c a0),.view [.map g],.ptr k 0]]))).set m (some (.tok 7 z.2.2.aj.l.length)))) (fun z=>z.1) (fun z=>xM a0 p z.1 z.2.1 z.2.2=some r) ((a0.aj.l.length+1),0,ai.zero) b wA ?_
  rintro ⟨u,E,J⟩ b aH ab;cases u with
  | zero=>cases b
  | succ u =>
    rw [xM] at b;refine Y3 ?_;refine ar fun aI ad=>?_;refine cE b (fun ae b=>?_) (fun ae b=>?_)
    ·refine sk ad (cT (tl [2,3,7,8,23,24,25]) (fun(z:ai)=>[]) (fun z=>[ai.c ai.zero,([Sl.d 7 ag.c (some m) z.aj])]) (fun z=>(((H.set g (some (.map (bK p)))).set k (some (.cells [.func 31 [.view (ai.c a0),.view [.map g],.ptr k 0]]))).set m (some (.tok 7 z.aj.l.length)))) (fun z=>CL E ((xM a0 p u)) z=some r) ?_ ?_)
     ·intro aK K;refine Y2 ?_;obtain⟨aL,ak,b⟩:=bO b;refine S (ix ag.c E ak) (Y4 ?_);refine bx 10 _ rfl (kl [2,3,7,8,23,24,25]) ?_;refine Y4 ?_;refine s0 (uk (TK rfl) rfl (TK rfl) (TK rfl) rfl rfl rfl rfl aA) rfl ?_;refine Y1 ?_;refine cE b (fun al b=>?_) (fun al b=>?_)
      ·refine ah.draw rfl ?_;refine Y4 ?_;obtain⟨aM,am,b⟩:=bO b;refine cH rfl rfl (Wb am) (Y1 ?_);obtain⟨L,an,b⟩:=bO b;refine aN.sH (iM (f:=ag.c) (TK rfl) rfl (TK rfl) (TK rfl) ⟨_,rfl⟩ rfl rfl (by decide) rfl rfl rfl rfl aA rfl an) rfl ?_
       refine aN.Dh (((H.set g (some (.map (bK p)))).set k (some (.cells [.func 31 [.view (ai.c a0),.view [.map g],.ptr k 0]]))).set m (some (.tok 7 L.l.length))) ?_;refine Y1 ?_;refine aN.gD (jC (TK rfl) rfl rfl rfl rfl (by repeat (first|exact bn.zero|apply bn.succ)) (by repeat (first|exact bn.zero|apply bn.succ))) ?_;refine Y1 ?_;exact K _ (ai.mk L) wA b
      refine ah.skip ?_;exact K _ J wA b
     rintro ao b;unfold CL at b;refine Y4 ?_;exact ab _ (u,(E+1),ao) wA b (nS _)
    refine ah.exit ?_;exact aa _ J wA b
 rintro aP b;unfold Gf at b;refine ar fun aQ ap=>ah.cq 1 _ rfl (fun j w cs hh hx=>iE 0 hx rfl) ?_;refine Y4 ?_;refine ap _ ?_;refine ry ?_;obtain rfl:=oJ b;refine bH.b9 H rfl ⟨rfl,rfl⟩ ?_;intro F aU M;have aV:F≠g:=fun q=>by subst q; simp_all [af.set]
 have aW:F≠k:=fun q=>by subst q; simp_all [af.set]
 have aX:F≠m:=fun q=>by subst q; simp_all [af.set]
 rw [<- M];simp only [af.set] at M ⊢;(repeat' split)<;>simp_all
def yQ :Option Bool:=(Gc ([120]:Bs)).bind fun x3=>(zF (ai.mk (⟨false,[(ag.mk 1 [81,117,101,114,121] Sl.nil Sl.nil (⟨false,[(Z6.mk [97] Sl.nil (aL.mk [73,110,116] Sl.nil) x3),(Z6.mk [98] Sl.nil (aL.mk [73,110,116] Sl.nil) (Sl.nil:Sl aD))]⟩:Sl Z6) (Sl.nil:Sl Z8) (Sl.nil:Sl Z7)),(ag.mk 1 [84] Sl.nil Sl.nil (⟨false,[(Z6.mk [97] Sl.nil (aL.mk [73,110,116] Sl.nil) (Sl.nil:Sl aD))]⟩:Sl Z6) (Sl.nil:Sl Z8) (Sl.nil:Sl Z7))]⟩:Sl ag)) (⟨false,[([120]:Bs)]⟩:Sl Bs) (Sl.nil:Sl Bs)).bind fun x5=>aY (((decide (((x5.2.l.length:Nat):Int)=(0:Int)))&&(decide (((x5.1.aj.l.length:Nat):Int)=(1:Int))))) (x5.1.aj.l[0]?) ag.zero fun b=>aY ((((decide (((x5.2.l.length:Nat):Int)=(0:Int)))&&(decide (((x5.1.aj.l.length:Nat):Int)=(1:Int))))&&(decide (((b.an.l.length:Nat):Int)=(1:Int))))) (x5.1.aj.l[0]?) ag.zero fun g=>aY ((((decide (((x5.2.l.length:Nat):Int)=(0:Int)))&&(decide (((x5.1.aj.l.length:Nat):Int)=(1:Int))))&&(decide (((b.an.l.length:Nat):Int)=(1:Int))))) (g.an.l[0]?) Z6.zero fun f=>aY (((((decide (((x5.2.l.length:Nat):Int)=(0:Int)))&&(decide (((x5.1.aj.l.length:Nat):Int)=(1:Int))))&&(decide (((b.an.l.length:Nat):Int)=(1:Int))))&&((f.aa==([97]:Bs))))) (Gh (ai.mk (⟨false,[(ag.mk 1 [81,117,101,114,121] Sl.nil Sl.nil (⟨false,[(Z6.mk [97] Sl.nil (aL.mk [73,110,116] Sl.nil) x3),(Z6.mk [98] Sl.nil (aL.mk [73,110,116] Sl.nil) (Sl.nil:Sl aD))]⟩:Sl Z6) (Sl.nil:Sl Z8) (Sl.nil:Sl Z7)),(ag.mk 1 [84] Sl.nil Sl.nil (⟨false,[(Z6.mk [97] Sl.nil (aL.mk [73,110,116] Sl.nil) (Sl.nil:Sl aD))]⟩:Sl Z6) (Sl.nil:Sl Z8) (Sl.nil:Sl Z7))]⟩:Sl ag))) ai.zero fun j=>some (((((decide (((x5.2.l.length:Nat):Int)=(0:Int)))&&(decide (((x5.1.aj.l.length:Nat):Int)=(1:Int))))&&(decide (((b.an.l.length:Nat):Int)=(1:Int))))&&((f.aa==([97]:Bs))))&&(decide (((j.aj.l.length:Nat):Int)=(1:Int))))
theorem Iu  {oT:Ab.Obj}{gT:Nat}{r:Bool}(b:yQ =some r) (H:af) (s:H gT=some oT) (t:iq Tryz.prog oT):AC Tryz.prog 6 [] H (RT (.a (.d (.bool r))) H):=by
 unfold yQ at b;refine AC.oW 59 [.tmp 0] Tryz.call6 Tryz.func6 ?_;refine Y5 ?_;obtain⟨x3,f,b⟩:=bO b;refine Sc rfl rfl (Xx f) (P3 ?_);refine bx 1 _ rfl dN.nil ?_;refine Y3 ?_;obtain⟨x5,g,b⟩:=bO b;refine s0 (eY rfl rfl (AC.Hg (.cons (.refl _) (.cons (.refl _) (.cons (nk.Hf (k':=1)) .nil))) (Iv (gT:=gT) (oT:=oT) g _ aA (by assumption)))) rfl ?_;refine Y7 ?_
 refine bx 2 _ rfl (kl [1,3]) ?_;refine Y2 ?_;refine aT Z5.c x5.2 fun u=>Y3 ?_;refine Gk 27 ?_;refine bG 28 rfl (fun hC=>dK ag.c x5.1.aj) ?_;refine Gk 29 ?_;refine Y3 ?_;refine Gk 33 ?_;obtain⟨j,k,b⟩:=gO b;refine bG 34 rfl (fun hC=>ix ag.c 0 (k hC)) ?_;refine Gk 35 ?_;refine Gk 36 ?_;refine bG 37 rfl (fun hC=>dK Z6.c j.an) ?_;refine Gk 38 ?_;refine Y3 ?_;refine Gk 42 ?_
 obtain⟨v,l,b⟩:=gO b;refine bG 43 rfl (fun hC=>ix ag.c 0 (l hC)) ?_;refine Gk 44 ?_;refine Gk 45 ?_;obtain⟨w,m,b⟩:=gO b;refine bG 46 rfl (fun hC=>ix Z6.c 0 (m hC)) ?_;refine Gk 47 ?_;refine Gk 48 ?_;refine Gk 49 ?_;refine Y3 ?_;obtain⟨p,q,b⟩:=gO b;refine dQ 53 rfl rfl rfl rfl rfl (fun hC=>XA (q hC)) ?_;refine bG 54 rfl (fun hC=>field (TK rfl) rfl rfl (TK rfl) rfl rfl rfl) ?_
 refine bG 55 rfl (fun hC=>dK ag.c p.aj) ?_;refine Gk 56 ?_;refine Y3 ?_;exact rt b
def od (b:Bs):List Bs->Unit ⊕ Bool
 | []=>Sum.inl ()
 | f::g=>on (f) fun j=>bif ((j==b)) then(Sum.inr true) else(od b (g) )
def tB (a0:(Sl Bs)) (g:Bs):Bool:=on (od g a0.l ) fun b=>match b with|Sum.inl _=>(on (()) fun _=>false)|Sum.inr f=>(f)
theorem Gi {a0 f w0 r}(b:some (tB a0 f)=some r) (H:af) :AC Tryz.prog 133 [.d (Sl.d 1 aB w0 a0),.d (.str f)] H (RT (.a (.d (.bool r))) H):=by
 unfold tB at b;refine AC.oW 18 [.tmp 4] Tryz.call133 Tryz.func133 ?_;refine Y3 ?_;refine aR kN (fun(z:Unit)=>[]) (fun z=>H) (fun z=>some (false)=some r) ?_ ?_
 ·intro B p;refine Y4 ?_;obtain⟨g,j,b⟩:=dX b;refine bD (tl [0,1]) (fun(z:Nat)=>[(5,vi z)]) (fun z=>H) (fun z=>a0.l.length-z) (fun z=>g (od f (a0.l.drop z) )=some r) 0 b wA ?_;rintro k b C q;refine ar fun E s=>Y3 ?_;refine aT aB a0 fun F=>Y2 ?_;refine ah.bL (fun l=>g (od f l )=some r) b rfl (fun G m t b=>?_) (fun t b=>?_)
  ·rw [od] at b;refine sk s (ar fun I u=>Y4 ?_);obtain⟨J,v,b⟩:=vP m b;refine S (ix aB k v) (Y4 ?_);refine cP b (fun w b=>?_) (fun w b=>?_)
   ·refine Y3 ?_;exact rs (ku j b:)
   refine sk u (Y5 ?_);exact q _ (k+1) wA b (dl m)
  rw [od] at b;have b:=ku j b;refine ah.exit ?_;obtain⟨K,y,b⟩:=dX b;exact p _ () wA (ku y b:)
 rintro _ b;refine Y3 ?_;exact rt b
def tC (b:(Sl Bs)):List Bs->Unit ⊕ Bool
 | []=>Sum.inl ()
 | f::g=>on (f) fun j=>on (tB b j) fun k=>bif k then(Sum.inr true) else(tC b (g) )
def tD (a0:(Sl Bs)) (g:(Sl Bs)):Bool:=on (tC g a0.l ) fun b=>match b with|Sum.inl _=>(on (()) fun _=>false)|Sum.inr f=>(f)
theorem Gj {a0 f w0 p r}(b:some (tD a0 f)=some r) (H:af) :AC Tryz.prog 87 [.d (Sl.d 1 aB w0 a0),.d (Sl.d 1 aB p f)] H (RT (.a (.d (.bool r))) H):=by
 unfold tD at b;refine AC.oW 18 [.tmp 4] Tryz.call87 Tryz.func87 ?_;refine Y3 ?_;refine aR kN (fun(z:Unit)=>[]) (fun z=>H) (fun z=>some (false)=some r) ?_ ?_
 ·intro E q;refine Y4 ?_;obtain⟨g,j,b⟩:=dX b;refine bD (tl [0,1]) (fun(z:Nat)=>[(5,vi z)]) (fun z=>H) (fun z=>a0.l.length-z) (fun z=>g (tC f (a0.l.drop z) )=some r) 0 b wA ?_;rintro k b F s;refine ar fun G t=>Y3 ?_;refine aT aB a0 fun I=>Y2 ?_;refine ah.bL (fun l=>g (tC f l )=some r) b rfl (fun J m u b=>?_) (fun u b=>?_)
  ·rw [tC] at b;refine sk t (ar fun K v=>Y5 ?_);obtain⟨L,w,b⟩:=vP m b;refine S (ix aB k w) (Y1 ?_);obtain⟨M,y,b⟩:=vP rfl b;refine Sc rfl rfl (Gi y) (Y1 ?_);refine cP b (fun B b=>?_) (fun B b=>?_)
   ·refine Y3 ?_;exact rs (ku j b:)
   refine sk v (Y5 ?_);exact s _ (k+1) wA b (dl m)
  rw [tC] at b;have b:=ku j b;refine ah.exit ?_;obtain⟨N,C,b⟩:=dX b;exact q _ () wA (ku C b:)
 rintro _ b;refine Y3 ?_;exact rt b
def tu (f:Bs):List bU->Unit ⊕ ((Z9×Bool))
 | []=>Sum.inl ()
 | b::g=>on (b) fun j=>bif ((j.aa==f)) then(on (b) fun k=>Sum.inr (k.ir,true)) else(tu f (g) )
def zp (a0:aD) (g:Bs):(Z9×Bool):=on (tu g a0.az.l ) fun b=>match b with|Sum.inl _=>(on (()) fun _=>((Z9.mk 0 0 [] true [] Sl.nil),false))|Sum.inr f=>(f)
theorem XB {a0 f r}(b:some (zp a0 f)=some r) (H:af) :AC Tryz.prog 168 [.agg (aD.c a0),.d (.str f)] H (RT (.cI [.agg (Z9.c r.1),.d (.bool r.2)]) H):=by
 unfold zp at b;refine AC.oW 29 [.cell 4 72,.tmp 5] Tryz.call168 Tryz.func168 ?_;refine Y5 ?_;refine cT (tl [4]) (fun(z:Z9)=>[]) (fun z=>[Z9.c z]) (fun z=>H) (fun z=>some (((Z9.mk 0 0 [] true [] Sl.nil),false))=some r) ?_ ?_
 ·intro E q;refine Y4 ?_;obtain⟨k,m,b⟩:=dX b;refine eZ (tl [1,2,4]) (fun(z:Nat×Z9)=>[(6,vi z.1)]) (fun z=>[Z9.c z.2]) (fun z=>H) (fun z=>a0.az.l.length-z.1) (fun z=>k (tu f (a0.az.l.drop z.1) )=some r) (0,Z9.zero) b wA ?_;rintro ⟨g,p⟩ b F s;refine ar fun G t=>Y4 ?_;refine aT bU.c a0.az fun I=>Y2 ?_
  refine ah.bL (fun l=>k (tu f l )=some r) b rfl (fun J j u b=>?_) (fun u b=>?_)
  ·rw [tu] at b;refine sk t (ar fun K v=>Y5 ?_);obtain⟨L,w,b⟩:=vP j b;refine S (ix bU.c g w) (Y5 ?_);refine cP b (fun y b=>?_) (fun y b=>?_)
   ·refine Y4 ?_;obtain⟨M,B,b⟩:=vP j b;refine S (ix bU.c g B) (Y5 ?_);exact rs (ku m b:)
   refine sk v (Y5 ?_);exact s _ ((g+1),p) wA b (dl j)
  rw [tu] at b;have b:=ku m b;refine ah.exit ?_;obtain⟨N,C,b⟩:=dX b;exact q _ p wA (ku C b:)
 rintro O b;refine Y5 ?_;exact rt b
def qX (j:Bs) (k:Bs):List aD->(Sl Z9)->Option ((Sl Z9))
 | [],b=>some b
 | f::l,b=>on (f) fun m=>on (zp m k) fun g=>on (f) fun p=>Option.bind (bif (((p.aa==j))&&g.2) then((bf 80 b (⟨false,[g.1]⟩:Sl Z9)).bind fun q=>some q) else(some b)) fun r=>qX j k (l) r
def zq (a0:(Sl aD)) (g:Bs) (j:Bs):Option (Sl Z9):=Option.bind (qX g j a0.l (Sl.nil:Sl Z9)) fun b=>on (b) fun f=>some f
theorem Nj {a0 g j w0 r}(b:zq a0 g j=some r) (H:af) :AC Tryz.prog 134 [.d (Sl.d 2 aD.c w0 a0),.d (.str g),.d (.str j)] H (RT (.a (.d (Sl.d 5 Z9.c none r))) H):=by
 unfold zq at b;refine AC.oW 41 [.tmp 6] Tryz.call134 Tryz.func134 ?_;refine ah.tok 5 fun f M=>?_;refine Y1 ?_;refine s0 (di (k':=5) rfl) rfl ?_;refine Y4 ?_;refine ah.fK 7 5 f rfl aA ?_;refine aR kN (fun(z:(Sl Z9))=>[(7,.a (.d (Sl.d 5 Z9.c (some f) z)))]) (fun z=>(tS H f 5 z)) (fun z=>(some z)=some r) ?_ ?_
 ·intro N u;refine Y4 ?_;obtain⟨m,v,b⟩:=bZ b;refine bD (tl [0,1,2]) (fun(z:(Sl Z9)×Nat)=>[(7,.a (.d (Sl.d 5 Z9.c (some f) z.1))),(8,vi z.2)]) (fun z=>(tS H f 5 z.1)) (fun z=>a0.l.length-z.2) (fun z=>Option.bind (qX g j (a0.l.drop z.2) z.1) m=some r) ((Sl.nil:Sl Z9),0) b wA ?_;rintro ⟨p,k⟩ b O w;refine ar fun P y=>Y3 ?_;refine aT aD.c a0 fun Q=>Y2 ?_
  refine ah.bL (fun l=>Option.bind (qX g j l p) m=some r) b rfl (fun R q B b=>?_) (fun B b=>?_)
  ·rw [qX] at b;refine sk y (aR (tl [0,1,2,8]) (fun(z:(Sl Z9))=>[(7,.a (.d (Sl.d 5 Z9.c (some f) z)))]) (fun z=>(tS H f 5 z)) (fun z=>Option.bind (qX g j (a0.l.drop (k+1)) z) m=some r) ?_ ?_)
   ·intro U s;refine Y4 ?_;obtain⟨W,C,b⟩:=vO q b;refine S (ix aD.c k C) (Y2 ?_);obtain⟨X,E,b⟩:=vO rfl b;refine Sc rfl rfl (XB E) (Y7 ?_);refine bx 9 _ rfl (kl [0,1,2,7,8,10]) ?_;refine Y3 ?_;obtain⟨Y,F,b⟩:=vO q b;refine S (ix aD.c k F) (Y8 ?_);obtain⟨Z,t,b⟩:=cM b;refine cO b (fun G b=>?_) (fun G b=>?_)
    ·refine Y4 ?_;obtain⟨I,J,b⟩:=qO rfl b;refine SH (am Z9.c (TK rfl) rfl (TK rfl) (TK rfl) J) ?_;refine Y2 ?_;exact s _ I wA (ku t b:)
    refine ah.skip ?_;exact s _ p wA (ku t b:)
   rintro K b;refine Y5 ?_;exact w _ (K,(k+1)) wA b (dl q)
  rw [qX] at b;have b:=ku v b;refine ah.exit ?_;obtain⟨aa,L,b⟩:=bW b;exact u _ p wA (ku L b:)
 rintro ab b;refine Y4 ?_;refine ah.dV 6 rfl ?_;refine ry ?_;obtain rfl:=oJ b;refine bH.b9 H rfl ⟨rfl,rfl⟩ ?_;exact sy
def kW :List Z9->(Sl Bs)->Option ((Sl Bs))
 | [],b=>some b
 | f::j,b=>on (f) fun g=>on (bif (decide (g.ak=(3:Int))) then f else Z9.zero) fun k=>on (bif (decide (g.ak=(3:Int))) then tB b k.br else false) fun l=>Option.bind (bif ((decide (g.ak=(3:Int)))&&(!l)) then(on (f) fun m=>(bf 16 b (⟨false,[m.br]⟩:Sl Bs)).bind fun p=>some p) else(some b)) fun q=>kW  (j) q
def qZ (a0:(Sl aD)):Option (Sl Bs):=(zq a0 ([116,97,103]:Bs) ([110,97,109,101]:Bs)).bind fun x3=>Option.bind (kW  x3.l (Sl.nil:Sl Bs)) fun b=>on (b) fun f=>some f
def CN (a0:(Sl aD)):Option (Sl Bs):=qZ a0
theorem Nk {a0 w0 r}(b:CN a0=some r) (H:af) :AC Tryz.prog 88 [.d (Sl.d 2 aD.c w0 a0)] H (RT (.a (.d (Sl.d 1 aB none r))) H):=by
 unfold CN qZ at b;refine AC.oW 39 [.tmp 2] Tryz.call88 Tryz.func88 ?_;refine ah.tok 1 fun f M=>?_;refine Y1 ?_;refine s0 (di (k':=1) rfl) rfl ?_;refine Y3 ?_;obtain⟨x3,s,b⟩:=qT rfl b;refine Sc rfl rfl (Nj s) (Y5 ?_);refine ah.fK 4 1 f rfl aA ?_;refine aR kN (fun(z:(Sl Bs))=>[(4,.a (.d (Sl.d 1 aB (some f) z)))]) (fun z=>(tS H f 1 z)) (fun z=>(some z)=some r) ?_ ?_
 ·intro N t;refine Y4 ?_;obtain⟨k,u,b⟩:=bZ b;refine bD (tl [3]) (fun(z:(Sl Bs)×Nat)=>[(4,.a (.d (Sl.d 1 aB (some f) z.1))),(5,vi z.2)]) (fun z=>(tS H f 1 z.1)) (fun z=>x3.l.length-z.2) (fun z=>Option.bind (kW  (x3.l.drop z.2) z.1) k=some r) ((Sl.nil:Sl Bs),0) b wA ?_;rintro ⟨m,g⟩ b O v;refine ar fun P w=>Y3 ?_;refine aT Z9.c x3 fun Q=>Y2 ?_
  refine ah.bL (fun l=>Option.bind (kW  l m) k=some r) b rfl (fun R j y b=>?_) (fun y b=>?_)
  ·rw [kW] at b;refine sk w (aR (tl [3,5]) (fun(z:(Sl Bs))=>[(4,.a (.d (Sl.d 1 aB (some f) z)))]) (fun z=>(tS H f 1 z)) (fun z=>Option.bind (kW  (x3.l.drop (g+1)) z) k=some r) ?_ ?_)
   ·intro U p;refine Y4 ?_;obtain⟨W,B,b⟩:=vO j b;refine S (ix Z9.c g B) (Y7 ?_);obtain⟨X,C,b⟩:=ej (fun _=>j) b;refine e9 22 23 rfl rfl (fun hC=>ix Z9.c g (C hC)) ?_;refine Gk 24 ?_;refine Gk 25 ?_;obtain⟨Y,E,b⟩:=ej (fun _=>rfl) b;refine fE 21 26 rfl rfl rfl rfl rfl rfl (fun hC=>Gi (E hC)) ?_;refine Gk 27 ?_;refine Y2 ?_;obtain⟨Z,q,b⟩:=cM b
    refine cO b (fun F b=>?_) (fun F b=>?_)
    ·refine Y4 ?_;obtain⟨aa,G,b⟩:=vO j b;refine S (ix Z9.c g G) (Y3 ?_);obtain⟨I,J,b⟩:=qO rfl b;refine SH (am aB (TK rfl) rfl (TK rfl) (TK rfl) J) ?_;refine Y2 ?_;exact p _ I wA (ku q b:)
    refine ah.skip ?_;exact p _ m wA (ku q b:)
   rintro K b;refine Y5 ?_;exact v _ (K,(g+1)) wA b (dl j)
  rw [kW] at b;have b:=ku u b;refine ah.exit ?_;obtain⟨ab,L,b⟩:=bW b;exact t _ m wA (ku L b:)
 rintro ad b;refine Y4 ?_;refine ah.dV 2 rfl ?_;refine ry ?_;obtain rfl:=oJ b;refine bH.b9 H rfl ⟨rfl,rfl⟩ ?_;exact sy
theorem XC {a0:Sl aD}{w0:Option Nat}{r:Sl Bs}(b:CN a0=some r) (H:af){f:Nat}(N:H f=some (.tok 1 0)):AC Tryz.prog 88 [.d (Sl.d 2 aD.c w0 a0)] H fun v h'=>v=.a (.d (Sl.d 1 aB (some f) r))/\h'=H.set f (some (.tok 1 r.l.length)):=by
 unfold CN qZ at b;refine AC.oW 39 [.tmp 2] Tryz.call88 Tryz.func88 ?_;refine hz (H.set f (some (.tok 1 0))) (Y5 ?_);obtain⟨x3,s,b⟩:=qT rfl b;refine Sc rfl rfl (Nj s) (Y5 ?_);refine ah.fK 4 1 f rfl aA ?_;refine aR kN (fun(z:(Sl Bs))=>[(4,.a (.d (Sl.d 1 aB (some f) z)))]) (fun z=>(tS H f 1 z)) (fun z=>(some z)=some r) ?_ ?_
 ·intro O t;refine Y4 ?_;obtain⟨k,u,b⟩:=bZ b;refine bD (tl [3]) (fun(z:(Sl Bs)×Nat)=>[(4,.a (.d (Sl.d 1 aB (some f) z.1))),(5,vi z.2)]) (fun z=>(tS H f 1 z.1)) (fun z=>x3.l.length-z.2) (fun z=>Option.bind (kW  (x3.l.drop z.2) z.1) k=some r) ((Sl.nil:Sl Bs),0) b wA ?_;rintro ⟨m,g⟩ b P w;refine ar fun Q y=>Y3 ?_;refine aT Z9.c x3 fun R=>Y2 ?_
  refine ah.bL (fun l=>Option.bind (kW  l m) k=some r) b rfl (fun U j B b=>?_) (fun B b=>?_)
  ·rw [kW] at b;refine sk y (aR (tl [3,5]) (fun(z:(Sl Bs))=>[(4,.a (.d (Sl.d 1 aB (some f) z)))]) (fun z=>(tS H f 1 z)) (fun z=>Option.bind (kW  (x3.l.drop (g+1)) z) k=some r) ?_ ?_)
   ·intro W p;refine Y4 ?_;obtain⟨X,C,b⟩:=vO j b;refine S (ix Z9.c g C) (Y7 ?_);obtain⟨Y,E,b⟩:=ej (fun _=>j) b;refine e9 22 23 rfl rfl (fun hC=>ix Z9.c g (E hC)) ?_;refine Gk 24 ?_;refine Gk 25 ?_;obtain⟨Z,F,b⟩:=ej (fun _=>rfl) b;refine fE 21 26 rfl rfl rfl rfl rfl rfl (fun hC=>Gi (F hC)) ?_;refine Gk 27 ?_;refine Y2 ?_;obtain⟨aa,q,b⟩:=cM b
    refine cO b (fun G b=>?_) (fun G b=>?_)
    ·refine Y4 ?_;obtain⟨ab,I,b⟩:=vO j b;refine S (ix Z9.c g I) (Y3 ?_);obtain⟨J,K,b⟩:=qO rfl b;refine SH (am aB (TK rfl) rfl (TK rfl) (TK rfl) K) ?_;refine Y2 ?_;exact p _ J wA (ku q b:)
    refine ah.skip ?_;exact p _ m wA (ku q b:)
   rintro L b;refine Y5 ?_;exact w _ (L,(g+1)) wA b (dl j)
  rw [kW] at b;have b:=ku u b;refine ah.exit ?_;obtain⟨ad,M,b⟩:=bW b;exact t _ m wA (ku M b:)
 rintro ae b;refine Y4 ?_;exact rt b
def wS (a0:(Sl aD)) (k:(Sl aD)) (b:(Sl Bs)) (m:(Sl Bs)):Option Bool:=(qZ a0).bind fun x3=>(qZ k).bind fun x5=>(bf 16 x3 x5).bind fun f=>on (tD f m) fun g=>on (bif ((!g)&&!(decide (((b.l.length:Nat):Int)=(0:Int)))) then tD f b else false) fun j=>some ((!g)&&((decide (((b.l.length:Nat):Int)=(0:Int)))||j))
theorem Nl {a0 g f j w0 k l m r}(b:wS a0 g f j=some r) (H:af) :AC Tryz.prog 89 [.d (Sl.d 2 aD.c w0 a0),.d (Sl.d 2 aD.c k g),.d (Sl.d 1 aB l f),.d (Sl.d 1 aB m j)] H (RT (.a (.d (.bool r))) H):=by
 unfold wS at b;refine AC.oW 30 [.tmp 8] Tryz.call89 Tryz.func89 ?_;refine Y3 ?_;refine ah.tok 1 fun v w=>?_;refine Y2 ?_;obtain⟨x3,p,b⟩:=qT rfl b;refine sH (bS rfl rfl (XC p _ aA)) rfl ?_;refine Y5 ?_;obtain⟨x5,q,b⟩:=qT rfl b;refine Sc rfl rfl (Nk q) ?_;obtain⟨y,s,b⟩:=qT rfl b;refine SH (am aB (TK rfl) rfl (TK rfl) (TK rfl) s) ?_;refine Y5 ?_
 obtain⟨z,t,b⟩:=vT rfl b;refine Sc rfl rfl (Gj t) (Y3 ?_);refine bG 21 rfl (fun hC=>dK aB f) ?_;refine Gk 22 ?_;refine Gk 23 ?_;refine Y2 ?_;obtain⟨B,u,b⟩:=l7 (fun _=>rfl) b;refine fE 25 26 rfl rfl rfl rfl rfl rfl (fun hC=>Gj (u hC)) ?_;refine bG 24 rfl (fun hC=>um rfl rfl rfl) ?_;refine Y3 ?_;refine ry ?_;obtain rfl:=oJ b;refine bH.b9 H rfl ⟨rfl,rfl⟩ ?_;exact sy
def pK (g:(Sl Bs)) (j:(Sl Bs)):List Z6->ag->Option (ag)
 | [],b=>some b
 | f::k,b=>on (f) fun l=>(wS l.aM b.aM g j).bind fun m=>Option.bind (bif m then(on (f) fun p=>(bf 104 b.an (⟨false,[p]⟩:Sl Z6)).bind fun q=>some (ag.mk b.ak b.aa b.aH b.aM q b.au b.ay)) else(some b)) fun r=>pK g j (k) r
def mQ (g:(Sl Bs)) (j:(Sl Bs)):List Z8->ag->Option (ag)
 | [],b=>some b
 | f::k,b=>on (f) fun l=>(wS l.aM b.aM g j).bind fun m=>Option.bind (bif m then(on (f) fun p=>(bf 40 b.au (⟨false,[p]⟩:Sl Z8)).bind fun q=>some (ag.mk b.ak b.aa b.aH b.aM b.an q b.ay)) else(some b)) fun r=>mQ g j (k) r
def pL (k:(Sl Bs)) (j:(Sl Bs)):List ag->ai->Option (ai)
 | [],g=>some g
 | m::p,g=>on (m) fun b=>(qZ b.aM).bind fun q=>on (tD q j) fun r=>Option.bind (bif r then(some g) else(Option.bind (pK k j b.an.l (ag.mk b.ak b.aa b.aH b.aM Sl.nil b.au b.ay)) fun s=>on (s) fun f=>Option.bind (bif (decide (f.ak=(4:Int))) then(Option.bind (mQ k j b.au.l (ag.mk f.ak f.aa f.aH f.aM f.an Sl.nil f.ay)) fun t=>some t) else(some f)) fun u=>(bf 144 g.aj (⟨false,[u]⟩:Sl ag)).bind fun v=>some (ai.mk v))) fun w=>pL k j (p) w
def zG (a0:ai) (g:(Sl Bs)) (j:(Sl Bs)):Option ai:=Option.bind (pL g j a0.aj.l ai.zero) fun b=>on (b) fun f=>some f
def CO (a0:ai) (b:(Sl Bs)) (f:(Sl Bs)):Option ai:=zG a0 b f
theorem U1 (a0:ai) (a1:(Sl Bs)) (a2:(Sl Bs)):CO a0 a1 a2=zG a0 a1 a2:=rfl
theorem XD {a0 u v aw ax r}(b:CO a0 u v=some r) (H:af) :AC Tryz.prog 47 [.agg (ai.c a0),.d (Sl.d 1 aB aw u),.d (Sl.d 1 aB ax v)] H (RT (.a (.agg (ai.c r))) H):=by
 unfold CO zG at b;refine AC.oW 97 [.cell 6 24] Tryz.call47 Tryz.func47 ?_;refine Y6 ?_;refine aJ.tok 7 fun g bu=>?_;refine aJ.cq 1 _ rfl (fun j w cs hh hx=>tok_cell 0 7 7 hh (t:=g) aA hx rfl) ?_;refine Y1 ?_;refine cT (tl [6,7]) (fun(z:ai)=>[]) (fun z=>[ai.c ai.zero,([Sl.d 7 ag.c (some g) z.aj])]) (fun z=>(tS H g 7 z.aj)) (fun z=>(some z)=some r) ?_ ?_
 ·intro bv az;refine Y4 ?_;obtain⟨K,aC,b⟩:=bZ b;refine eZ (tl [1,2,3,6,7]) (fun(z:Nat×ai)=>[(8,vi z.1)]) (fun z=>[ai.c ai.zero,([Sl.d 7 ag.c (some g) z.2.aj])]) (fun z=>(tS H g 7 z.2.aj)) (fun z=>a0.aj.l.length-z.1) (fun z=>Option.bind (pL u v (a0.aj.l.drop z.1) z.2) K=some r) (0,ai.zero) b wA ?_;rintro ⟨L,k⟩ b bw aE;refine ar fun bx aF=>Y4 ?_
  refine aT ag.c a0.aj fun bz=>Y2 ?_;refine ah.bL (fun l=>Option.bind (pL u v l k) K=some r) b rfl (fun bA X aG b=>?_) (fun aG b=>?_)
  ·rw [pL] at b;refine sk aF (cT (tl [1,2,3,6,7,8]) (fun(z:ai)=>[]) (fun z=>[ai.c ai.zero,([Sl.d 7 ag.c (some g) z.aj])]) (fun z=>(tS H g 7 z.aj)) (fun z=>Option.bind (pL u v (a0.aj.l.drop (L+1)) z) K=some r) ?_ ?_)
   ·intro bB Y;refine Y5 ?_;obtain⟨p,aI,b⟩:=vO X b;refine S (ix ag.c L aI) (Y4 ?_);refine ar fun bC aK=>Y3 ?_;obtain⟨bD,aL,b⟩:=qO rfl b;refine Sc rfl rfl (Nk aL) (Y1 ?_);obtain⟨bE,aP,b⟩:=vO rfl b;refine Sc rfl rfl (Gj aP) (Y1 ?_);obtain⟨aQ,Z,b⟩:=cM b;refine cO b (fun aR b=>?_) (fun aR b=>?_)
    ·refine ah.exit ?_;exact Y _ k wA (ku Z b:)
    refine sk aK (DQ ?_);refine aJ.cq 2 _ rfl (fun j w cs hh hx=>AV 4 5 hx rfl) ?_;refine Y1 ?_;refine ah.tok 5 fun m M=>?_;obtain⟨aU,M⟩:=af.dW M;refine ah.cq 2 _ rfl (fun j w cs hh hx=>tok_cell 4 5 5 hh (t:=m) aA hx rfl) ?_
    refine cT (tl [1,2,3,6,7,8,9,11]) (fun(z:ag)=>[]) (fun z=>[ai.c ai.zero,([Sl.d 7 ag.c (some g) k.aj]),((bI .i64) z.ak++aB z.aa++(fun s=>[Sl.d 1 aB none s]) z.aH++(fun s=>[Sl.d 2 aD.c none s]) z.aM++[Sl.d 5 Z6.c (some m) z.an]++(fun s=>[Sl.d 2 Z8.c none s]) z.au++(fun s=>[Sl.d 10 Z7.c none s]) z.ay)]) (fun z=>(tS (tS H g 7 k.aj) m 5 z.an)) (fun z=>Option.bind (Option.bind (bif (decide (z.ak=(4:Int))) then(Option.bind (mQ u v p.au.l (ag.mk z.ak z.aa z.aH z.aM z.an Sl.nil z.ay)) fun q=>some q) else(some z)) fun N=>(bf 144 k.aj (⟨false,[N]⟩:Sl ag)).bind fun G=>some (ai.mk G)) aQ=some r) ?_ ?_
    ·intro bF aV;refine Y4 ?_;obtain⟨O,aW,b⟩:=cM b
     refine eZ (tl [1,2,3,6,7,8,9,10,11]) (fun(z:Nat×ag)=>[(12,vi z.1)]) (fun z=>[ai.c ai.zero,([Sl.d 7 ag.c (some g) k.aj]),((bI .i64) z.2.ak++aB z.2.aa++(fun s=>[Sl.d 1 aB none s]) z.2.aH++(fun s=>[Sl.d 2 aD.c none s]) z.2.aM++[Sl.d 5 Z6.c (some m) z.2.an]++(fun s=>[Sl.d 2 Z8.c none s]) z.2.au++(fun s=>[Sl.d 10 Z7.c none s]) z.2.ay)]) (fun z=>(tS (tS H g 7 k.aj) m 5 z.2.an)) (fun z=>p.an.l.length-z.1) (fun z=>Option.bind (pK u v (p.an.l.drop z.1) z.2) O=some r) (0,(ag.mk p.ak p.aa p.aH p.aM Sl.nil p.au p.ay)) b wA ?_
     rintro ⟨I,y⟩ b bG aX;refine ar fun bJ aY=>Y3 ?_;refine aT Z6.c p.an fun bK=>Y2 ?_;refine ah.bL (fun l=>Option.bind (pK u v l y) O=some r) b rfl (fun bM P aZ b=>?_) (fun aZ b=>?_)
     ·rw [pK] at b;refine sk aY ?_
      refine cT (tl [1,2,3,6,7,8,9,10,11,12]) (fun(z:ag)=>[]) (fun z=>[ai.c ai.zero,([Sl.d 7 ag.c (some g) k.aj]),((bI .i64) z.ak++aB z.aa++(fun s=>[Sl.d 1 aB none s]) z.aH++(fun s=>[Sl.d 2 aD.c none s]) z.aM++[Sl.d 5 Z6.c (some m) z.an]++(fun s=>[Sl.d 2 Z8.c none s]) z.au++(fun s=>[Sl.d 10 Z7.c none s]) z.ay)]) (fun z=>(tS (tS H g 7 k.aj) m 5 z.an)) (fun z=>Option.bind (pK u v (p.an.l.drop (I+1)) z) O=some r) ?_ ?_
      ·intro bN ab;refine Y4 ?_;obtain⟨bO,a1,b⟩:=vO P b;refine Sd (ix Z6.c I a1) (Y6 ?_);obtain⟨bP,a2,b⟩:=qO rfl b;refine cH rfl rfl (Nl a2) (Y1 ?_);obtain⟨bQ,ad,b⟩:=cM b;refine cO b (fun a3 b=>?_) (fun a3 b=>?_)
       ·refine ah.draw rfl ?_;refine Y4 ?_;obtain⟨bR,a4,b⟩:=vO P b;refine Sd (ix Z6.c I a4) (Y2 ?_);obtain⟨ae,a5,b⟩:=qO rfl b;refine aN.sH (iM (f:=Z6.c) (TK rfl) rfl (TK rfl) (TK rfl) ⟨_,rfl⟩ rfl rfl (by decide) rfl rfl rfl rfl aA rfl a5) rfl ?_;refine aN.Dh (tS (tS H g 7 k.aj) m 5 ae) ?_;refine Y1 ?_
        refine aN.gD (jC (TK rfl) rfl rfl rfl rfl (by repeat (first|exact bn.zero|apply bn.succ)) (by repeat (first|exact bn.zero|apply bn.succ))) ?_;refine Y1 ?_;exact ab _ (ag.mk y.ak y.aa y.aH y.aM ae y.au y.ay) wA (ku ad b:)
       refine ah.skip ?_;exact ab _ y wA (ku ad b:)
      rintro a6 b;refine Y5 ?_;exact aX _ ((I+1),a6) wA b (dl P)
     rw [pK] at b;have b:=ku aW b;refine ah.exit ?_;obtain⟨bS,a7,b⟩:=gM b;exact aV _ y wA (ku a7 b:)
    rintro B b;obtain⟨a8,a9,b⟩:=cM b
    refine cT (tl [1,2,3,6,7,8,9]) (fun(z:ag)=>[]) (fun z=>[ai.c ai.zero,([Sl.d 7 ag.c (some g) k.aj]),((bI .i64) z.ak++aB z.aa++(fun s=>[Sl.d 1 aB none s]) z.aH++(fun s=>[Sl.d 2 aD.c none s]) z.aM++[Sl.d 5 Z6.c (some m) z.an]++(fun s=>[Sl.d 2 Z8.c none s]) z.au++(fun s=>[Sl.d 10 Z7.c none s]) z.ay)]) (fun z=>(tS (tS H g 7 k.aj) m 5 z.an)) (fun z=>a8 z=some r) ?_ ?_
    ·intro bT al;refine Y5 ?_;refine cO b (fun a_ b=>?_) (fun a_ b=>?_)
     ·refine Y3 ?_;refine aJ.cq 2 _ rfl (fun j w cs hh hx=>AV 5 2 hx rfl) ?_;refine Y1 ?_;refine ah.tok 2 fun C F=>?_;obtain⟨a',F⟩:=af.dW F;obtain⟨ba,F⟩:=af.dW F;refine ah.cq 2 _ rfl (fun j w cs hh hx=>tok_cell 5 2 2 hh (t:=C) aA hx rfl) ?_;refine Y4 ?_;obtain⟨Q,bb,b⟩:=cM b
      refine eZ (tl [1,2,3,6,7,8,9,11]) (fun(z:Nat×ag)=>[(13,vi z.1)]) (fun z=>[ai.c ai.zero,([Sl.d 7 ag.c (some g) k.aj]),((bI .i64) z.2.ak++aB z.2.aa++(fun s=>[Sl.d 1 aB none s]) z.2.aH++(fun s=>[Sl.d 2 aD.c none s]) z.2.aM++[Sl.d 5 Z6.c (some m) z.2.an]++[Sl.d 2 Z8.c (some C) z.2.au]++(fun s=>[Sl.d 10 Z7.c none s]) z.2.ay)]) (fun z=>((tS (tS H g 7 k.aj) m 5 z.2.an).set C (some (.tok 2 z.2.au.l.length)))) (fun z=>p.au.l.length-z.1) (fun z=>Option.bind (mQ u v (p.au.l.drop z.1) z.2) Q=some r) (0,(ag.mk B.ak B.aa B.aH B.aM B.an Sl.nil B.ay)) b wA ?_
      rintro ⟨J,q⟩ b bU bc;refine ar fun bV bd=>Y3 ?_;refine aT Z8.c p.au fun bX=>Y2 ?_;refine ah.bL (fun l=>Option.bind (mQ u v l q) Q=some r) b rfl (fun bY R be b=>?_) (fun be b=>?_)
      ·rw [mQ] at b;refine sk bd ?_
       refine cT (tl [1,2,3,6,7,8,9,11,13]) (fun(z:ag)=>[]) (fun z=>[ai.c ai.zero,([Sl.d 7 ag.c (some g) k.aj]),((bI .i64) z.ak++aB z.aa++(fun s=>[Sl.d 1 aB none s]) z.aH++(fun s=>[Sl.d 2 aD.c none s]) z.aM++[Sl.d 5 Z6.c (some m) z.an]++[Sl.d 2 Z8.c (some C) z.au]++(fun s=>[Sl.d 10 Z7.c none s]) z.ay)]) (fun z=>((tS (tS H g 7 k.aj) m 5 z.an).set C (some (.tok 2 z.au.l.length)))) (fun z=>Option.bind (mQ u v (p.au.l.drop (J+1)) z) Q=some r) ?_ ?_
       ·intro b0 ao;refine Y4 ?_;obtain⟨b1,bg,b⟩:=vO R b;refine Sd (ix Z8.c J bg) (Y6 ?_);obtain⟨b2,bh,b⟩:=qO rfl b;refine cH rfl rfl (Nl bh) (Y1 ?_);obtain⟨b3,ap,b⟩:=cM b;refine cO b (fun bi b=>?_) (fun bi b=>?_)
        ·refine ah.draw rfl ?_;refine Y4 ?_;obtain⟨b4,bj,b⟩:=vO R b;refine Sd (ix Z8.c J bj) (Y2 ?_);obtain⟨av,bk,b⟩:=qO rfl b;refine aN.sH (iM (f:=Z8.c) (TK rfl) rfl (TK rfl) (TK rfl) ⟨_,rfl⟩ rfl rfl (by decide) rfl rfl rfl rfl aA rfl bk) rfl ?_;refine aN.Dh ((tS (tS H g 7 k.aj) m 5 q.an).set C (some (.tok 2 av.l.length))) ?_;refine Y1 ?_
         refine aN.gD (jC (TK rfl) rfl rfl rfl rfl (by repeat (first|exact bn.zero|apply bn.succ)) (by repeat (first|exact bn.zero|apply bn.succ))) ?_;refine Y1 ?_;exact ao _ (ag.mk q.ak q.aa q.aH q.aM q.an av q.ay) wA (ku ap b:)
        refine ah.skip ?_;exact ao _ q wA (ku ap b:)
       rintro bl b;refine Y5 ?_;exact bc _ ((J+1),bl) wA b (dl R)
      rw [mQ] at b;have b:=ku bb b;refine ah.exit ?_;exact al _ q (ck.trans (ck.cq 2 _ rfl (fun j w cs hh hx=>iE 5 hx rfl)) ((ck.toFA (by(intro U bm E); (have bo:U≠C:=fun W=>by rw [W] at E; simp [af.set,F,ba,a'] at E); (rw [<- E]); (simp only [af.set,if_neg bo]); (first|done|rfl))))) b
     refine ah.skip ?_;exact al _ B wA b
    rintro N b;have b:=ku a9 b;refine ah.cq 2 _ rfl (fun j w cs hh hx=>iE 4 hx rfl) ?_;refine Y5 ?_;obtain⟨G,bp,b⟩:=qO rfl b;refine SH (am ag.c (TK rfl) rfl (TK rfl) (TK rfl) bp) ?_;refine hq (tS (tS H g 7 G) m 5 N.an) (Y3 ?_);have b:=ku Z b
    exact Y _ (ai.mk G) (ck.toFA (by(intro U bm E); (have bq:U≠m:=fun W=>by rw [W] at E; simp [af.set,M,aU] at E); (rw [<- E]); (simp only [af.set,if_neg bq]); (first|done|rfl))) b
   rintro br b;refine Y5 ?_;exact aE _ ((L+1),br) wA b (dl X)
  rw [pL] at b;have b:=ku aC b;refine ah.exit ?_;obtain⟨b5,bs,b⟩:=bW b;exact az _ k wA (ku bs b:)
 rintro b6 b;refine ar fun b7 bt=>ah.cq 1 _ rfl (fun j w cs hh hx=>iE 0 hx rfl) ?_;refine Y4 ?_;refine bt _ ?_;refine ry ?_;obtain rfl:=oJ b;refine bH.b9 H rfl ⟨rfl,rfl⟩ ?_;exact sy
def tG (a0:ai) (b:Bs):Bool:=on (fe a0 b) fun x3=>on (iO b) fun x5=>((!x5)&&(!x3.2))
theorem CP {a0 f r}(b:some (tG a0 f)=some r) (H:af) :AC Tryz.prog 92 [.agg (ai.c a0),.d (.str f)] H (RT (.a (.d (.bool r))) H):=by
 unfold tG at b;refine AC.oW 20 [.tmp 4] Tryz.call92 Tryz.func92 ?_;refine Y7 ?_;obtain⟨x3,g,b⟩:=vP rfl b;refine Sc rfl rfl (l_ g) (Y7 ?_);refine bx 5 _ rfl (kl [1,6]) ?_;refine Y2 ?_;obtain⟨x5,j,b⟩:=vP rfl b;refine Sc rfl rfl (uz j) (Y3 ?_);refine Gk 17 ?_;refine Y3 ?_;exact rt b
def pN (a0:ai):List Z7->(Sl Z7)->Option (((Sl Z7)) ⊕ (((Sl Z7)×Bool)))
 | [],b=>some (Sum.inl b)
 | f::k,b=>on (f) fun l=>on (tG a0 l.ax.aa) fun m=>on (fun(p:(Sl Z7))=>pN a0 (k) p) fun g=>bif (!m) then(on (f) fun q=>(bf 168 b (⟨false,[q]⟩:Sl Z7)).bind fun r=>g r) else(on (f) fun s=>on (iv s.ax) fun j=>on (bif j then f else Z7.zero) fun t=>bif (j&&(!t.b_)) then(some (Sum.inr ((Sl.nil:Sl Z7),false))) else(g b))
def wV (a0:ai) (k:(Sl Z7)):Option ((Sl Z7)×Bool):=Option.bind (pN a0 k.l (Sl.nil:Sl Z7)) fun b=>match b with|Sum.inl f=>(on (f) fun g=>some (g,true))|Sum.inr j=>(some j)
theorem Nn {a0 j t r}(b:wV a0 j=some r) (H:af) :AC Tryz.prog 91 [.agg (ai.c a0),.d (Sl.d 10 Z7.c t j)] H (RT (.cI [.d (Sl.d 10 Z7.c none r.1),.d (.bool r.2)]) H):=by
 unfold wV at b;refine AC.oW 45 [.tmp 4,.tmp 5] Tryz.call91 Tryz.func91 ?_;refine ah.tok 10 fun f Q=>?_;refine Y2 ?_;refine s0 (di (k':=10) rfl) rfl ?_;refine Y5 ?_;refine ah.fK 6 10 f rfl aA ?_;refine aR kN (fun(z:(Sl Z7))=>[(6,.a (.d (Sl.d 10 Z7.c (some f) z)))]) (fun z=>(tS H f 10 z)) (fun z=>(some (z,true))=some r) ?_ ?_
 ·intro R u;refine Y4 ?_;obtain⟨m,q,b⟩:=bZ b;refine bD (tl [1,2]) (fun(z:(Sl Z7)×Nat)=>[(6,.a (.d (Sl.d 10 Z7.c (some f) z.1))),(7,vi z.2)]) (fun z=>(tS H f 10 z.1)) (fun z=>j.l.length-z.2) (fun z=>Option.bind (pN a0 (j.l.drop z.2) z.1) m=some r) ((Sl.nil:Sl Z7),0) b wA ?_;rintro ⟨p,g⟩ b U v;refine ar fun W w=>Y3 ?_;refine aT Z7.c j fun X=>Y2 ?_
  refine ah.bL (fun l=>Option.bind (pN a0 l p) m=some r) b rfl (fun Y k y b=>?_) (fun y b=>?_)
  ·rw [pN] at b;refine sk w (aR (tl [1,2,7]) (fun(z:(Sl Z7))=>[(6,.a (.d (Sl.d 10 Z7.c (some f) z)))]) (fun z=>(tS H f 10 z)) (fun z=>Option.bind (pN a0 (j.l.drop (g+1)) z) m=some r) ?_ ?_)
   ·intro Z s;refine Y1 ?_;refine ar fun aa B=>Y4 ?_;obtain⟨ab,C,b⟩:=vO k b;refine Sd (ix Z7.c g C) (Y3 ?_);obtain⟨ad,E,b⟩:=vO rfl b;refine cH rfl rfl (CP E) (Y2 ?_);obtain⟨_,rfl,b⟩:=mO b;refine cO b (fun F b=>?_) (fun F b=>?_)
    ·refine Y4 ?_;obtain⟨ae,G,b⟩:=vO k b;refine S (ix Z7.c g G) (Y2 ?_);obtain⟨I,J,b⟩:=qO rfl b;refine SH (am Z7.c (TK rfl) rfl (TK rfl) (TK rfl) J) ?_;refine Y2 ?_;refine ah.exit ?_;exact s _ I wA b
    refine sk B (Y3 ?_);obtain⟨ag,K,b⟩:=vO k b;refine S (ix Z7.c g K) (Y2 ?_);obtain⟨aj,L,b⟩:=vO rfl b;refine Sc rfl rfl (tO L) (Y3 ?_);obtain⟨ak,M,b⟩:=ej (fun _=>k) b;refine e9 37 38 rfl rfl (fun hC=>ix Z7.c g (M hC)) ?_;refine Gk 39 ?_;refine Gk 40 ?_;refine Gk 41 ?_;refine Y2 ?_;refine cO b (fun N b=>?_) (fun N b=>?_)
    ·refine Y1 ?_;refine s0 (di (k':=10) rfl) rfl ?_;refine Y2 ?_;refine ry ?_;have b:=ku q b;obtain rfl:=oJ b;refine bH.b9 H rfl ⟨rfl,rfl⟩ ?_;exact sy
    refine ah.skip ?_;exact s _ p wA b
   rintro O b;refine Y5 ?_;exact v _ (O,(g+1)) wA b (dl k)
  rw [pN] at b;have b:=ku q b;refine ah.exit ?_;obtain⟨al,P,b⟩:=bW b;exact u _ p wA (ku P b:)
 rintro an b;refine Y5 ?_;refine ah.dV 4 rfl ?_;refine ry ?_;obtain rfl:=oJ b;refine bH.b9 H rfl ⟨rfl,rfl⟩ ?_;exact sy
def pO (a0:ai):List Z6->(Sl Z6)->Option ((Sl Z6))
 | [],f=>some f
 | j::k,f=>on (j) fun b=>(wV a0 b.az).bind fun g=>on (bif g.2 then tG a0 b.ax.aa else false) fun l=>Option.bind (bif (g.2&&(!l)) then((bf 104 f (⟨false,[(Z6.mk b.aa g.1 b.ax b.aM)]⟩:Sl Z6)).bind fun m=>some m) else(some f)) fun p=>pO a0 (k) p
def zB (a0:ai) (g:(Sl Z6)):Option (Sl Z6):=Option.bind (pO a0 g.l (Sl.nil:Sl Z6)) fun b=>on (b) fun f=>some f
theorem XE {a0 g u r}(b:zB a0 g=some r) (H:af) :AC Tryz.prog 90 [.agg (ai.c a0),.d (Sl.d 5 Z6.c u g)] H (RT (.a (.d (Sl.d 5 Z6.c none r))) H):=by
 unfold zB at b;refine AC.oW 43 [.tmp 4] Tryz.call90 Tryz.func90 ?_;refine ah.tok 5 fun f N=>?_;refine Y2 ?_;refine s0 (di (k':=5) rfl) rfl ?_;refine Y4 ?_;refine ah.fK 5 5 f rfl aA ?_;refine aR kN (fun(z:(Sl Z6))=>[(5,.a (.d (Sl.d 5 Z6.c (some f) z)))]) (fun z=>(tS H f 5 z)) (fun z=>(some z)=some r) ?_ ?_
 ·intro O v;refine Y4 ?_;obtain⟨j,w,b⟩:=bZ b;refine bD (tl [1,2]) (fun(z:(Sl Z6)×Nat)=>[(5,.a (.d (Sl.d 5 Z6.c (some f) z.1))),(6,vi z.2)]) (fun z=>(tS H f 5 z.1)) (fun z=>g.l.length-z.2) (fun z=>Option.bind (pO a0 (g.l.drop z.2) z.1) j=some r) ((Sl.nil:Sl Z6),0) b wA ?_;rintro ⟨m,p⟩ b P y;refine ar fun Q B=>Y3 ?_;refine aT Z6.c g fun R=>Y2 ?_
  refine ah.bL (fun l=>Option.bind (pO a0 l m) j=some r) b rfl (fun U q C b=>?_) (fun C b=>?_)
  ·rw [pO] at b;refine sk B (aR (tl [1,2,6]) (fun(z:(Sl Z6))=>[(5,.a (.d (Sl.d 5 Z6.c (some f) z)))]) (fun z=>(tS H f 5 z)) (fun z=>Option.bind (pO a0 (g.l.drop (p+1)) z) j=some r) ?_ ?_)
   ·intro W s;refine Y4 ?_;obtain⟨X,E,b⟩:=vO q b;refine S (ix Z6.c p E) (Y8 ?_);obtain⟨Y,F,b⟩:=qO rfl b;refine Sc rfl rfl (Nn F) (DQ ?_);refine gC rfl rfl (fun hC=>nq (k:=30) rfl (nj (TK rfl) rfl rfl (TK rfl) rfl rfl)) rfl ?_;refine gC rfl rfl (fun hC=>nq (k:=31) rfl (jP (TK rfl) rfl rfl rfl rfl)) rfl ?_;obtain⟨Z,G,b⟩:=ej (fun _=>rfl) b
    refine fE 29 32 rfl rfl rfl rfl rfl rfl (fun hC=>CP (G hC)) ?_;refine Gk 33 ?_;refine Y2 ?_;obtain⟨aa,t,b⟩:=cM b;refine cO b (fun I b=>?_) (fun I b=>?_)
    ·refine Y9 ?_;obtain⟨J,K,b⟩:=qO rfl b;refine SH (am Z6.c (TK rfl) rfl (TK rfl) (TK rfl) K) ?_;refine Y2 ?_;exact s _ J wA (ku t b:)
    refine ah.skip ?_;exact s _ m wA (ku t b:)
   rintro L b;refine Y5 ?_;exact y _ (L,(p+1)) wA b (dl q)
  rw [pO] at b;have b:=ku w b;refine ah.exit ?_;obtain⟨ab,M,b⟩:=bW b;exact v _ m wA (ku M b:)
 rintro ad b;refine Y4 ?_;refine ah.dV 4 rfl ?_;refine ry ?_;obtain rfl:=oJ b;refine bH.b9 H rfl ⟨rfl,rfl⟩ ?_;exact sy
def pP (a0:ai):List Bs->ag->Option (ag)
 | [],b=>some b
 | f::g,b=>on (f) fun j=>on (tG a0 j) fun k=>Option.bind (bif (!k) then(on (f) fun l=>(bf 16 b.aH (⟨false,[l]⟩:Sl Bs)).bind fun m=>some (ag.mk b.ak b.aa m b.aM b.an b.au b.ay)) else(some b)) fun p=>pP a0 (g) p
def oe (a0:ai):List Z8->ag->Option (ag)
 | [],b=>some b
 | f::g,b=>on (f) fun j=>on (tG a0 j.aa) fun k=>Option.bind (bif (!k) then(on (f) fun l=>(bf 40 b.au (⟨false,[l]⟩:Sl Z8)).bind fun m=>some (ag.mk b.ak b.aa b.aH b.aM b.an m b.ay)) else(some b)) fun p=>oe a0 (g) p
def og (a0:ai):List ag->ai->Option (ai)
 | [],j=>some j
 | p::q,j=>on (p) fun b=>(zB a0 b.an).bind fun m=>(wV a0 b.ay).bind fun g=>Option.bind (bif (decide (b.ak=(3:Int))) then(Option.bind (oe a0 b.au.l (ag.mk b.ak b.aa b.aH b.aM m Sl.nil g.1)) fun r=>some r) else(some (ag.mk b.ak b.aa b.aH b.aM m b.au g.1))) fun f=>Option.bind (pP a0 b.aH.l (ag.mk f.ak f.aa Sl.nil f.aM f.an f.au f.ay)) fun s=>on (s) fun k=>aY (g.2) (cF ((k.an.l.length:Nat):Int) ((k.au.l.length:Nat):Int)) (0:Int) fun t=>aY (g.2) (cF t ((k.ay.l.length:Nat):Int)) (0:Int) fun u=>Option.bind (bif (g.2&&(decide ((0:Int)<u))) then((bf 144 j.aj (⟨false,[k]⟩:Sl ag)).bind fun v=>some (ai.mk v)) else(some j)) fun w=>og a0 (q) w
def wW (a0:ai):Option ai:=Option.bind (og a0 a0.aj.l ai.zero) fun b=>on (b) fun f=>some f
def z8 (a0:ai):Option ai:=wW a0
theorem LU (a0:ai):z8 a0=wW a0:=rfl
theorem No {a0 r}(b:z8 a0=some r) (H:af) :AC Tryz.prog 48 [.agg (ai.c a0)] H (RT (.a (.agg (ai.c r))) H):=by
 unfold z8 wW at b;refine AC.oW 114 [.cell 2 24] Tryz.call48 Tryz.func48 ?_;refine Y6 ?_;refine aJ.tok 7 fun g bv=>?_;refine aJ.cq 1 _ rfl (fun j w cs hh hx=>tok_cell 0 7 7 hh (t:=g) aA hx rfl) ?_;refine Y1 ?_;refine cT (tl [2,3]) (fun(z:ai)=>[]) (fun z=>[ai.c ai.zero,([Sl.d 7 ag.c (some g) z.aj])]) (fun z=>(tS H g 7 z.aj)) (fun z=>(some z)=some r) ?_ ?_
 ·intro bw aI;refine Y4 ?_;obtain⟨I,aK,b⟩:=bZ b;refine eZ (tl [1,2,3]) (fun(z:Nat×ai)=>[(4,vi z.1)]) (fun z=>[ai.c ai.zero,([Sl.d 7 ag.c (some g) z.2.aj])]) (fun z=>(tS H g 7 z.2.aj)) (fun z=>a0.aj.l.length-z.1) (fun z=>Option.bind (og a0 (a0.aj.l.drop z.1) z.2) I=some r) (0,ai.zero) b wA ?_;rintro ⟨J,m⟩ b bx aL;refine ar fun bz aP=>Y4 ?_
  refine aT ag.c a0.aj fun bA=>Y2 ?_;refine ah.bL (fun l=>Option.bind (og a0 l m) I=some r) b rfl (fun bB Z aQ b=>?_) (fun aQ b=>?_)
  ·rw [og] at b;refine sk aP (cT (tl [1,2,3,4]) (fun(z:ai)=>[]) (fun z=>[ai.c ai.zero,([Sl.d 7 ag.c (some g) z.aj])]) (fun z=>(tS H g 7 z.aj)) (fun z=>Option.bind (og a0 (a0.aj.l.drop (J+1)) z) I=some r) ?_ ?_)
   ·intro bC ab;refine Y5 ?_;obtain⟨p,aR,b⟩:=vO Z b;refine S (ix ag.c J aR) (Y8 ?_);obtain⟨ad,aU,b⟩:=qO rfl b;refine Sc rfl rfl (XE aU) (Y7 ?_);obtain⟨E,aV,b⟩:=qO rfl b;refine Sc rfl rfl (Nn aV) (P5 ?_);obtain⟨aW,aX,b⟩:=cM b
    refine cT (tl [1,2,3,4,5,7,9]) (fun(z:ag)=>[]) (fun z=>[ai.c ai.zero,([Sl.d 7 ag.c (some g) m.aj]),ag.c z]) (fun z=>(tS H g 7 m.aj)) (fun z=>aW z=some r) ?_ ?_
    ·intro bD ae;refine Y5 ?_;refine cO b (fun aZ b=>?_) (fun aZ b=>?_)
     ·refine Y3 ?_;refine aJ.cq 2 _ rfl (fun j w cs hh hx=>AV 5 2 hx rfl) ?_;refine Y1 ?_;refine ah.tok 2 fun B P=>?_;obtain⟨a1,P⟩:=af.dW P;refine ah.cq 2 _ rfl (fun j w cs hh hx=>tok_cell 5 2 2 hh (t:=B) aA hx rfl) ?_;refine Y4 ?_;obtain⟨Q,a2,b⟩:=cM b
      refine eZ (tl [1,2,3,4,5,7,8,9]) (fun(z:Nat×ag)=>[(10,vi z.1)]) (fun z=>[ai.c ai.zero,([Sl.d 7 ag.c (some g) m.aj]),((bI .i64) z.2.ak++aB z.2.aa++(fun s=>[Sl.d 1 aB none s]) z.2.aH++(fun s=>[Sl.d 2 aD.c none s]) z.2.aM++(fun s=>[Sl.d 5 Z6.c none s]) z.2.an++[Sl.d 2 Z8.c (some B) z.2.au]++(fun s=>[Sl.d 10 Z7.c none s]) z.2.ay)]) (fun z=>(tS (tS H g 7 m.aj) B 2 z.2.au)) (fun z=>p.au.l.length-z.1) (fun z=>Option.bind (oe a0 (p.au.l.drop z.1) z.2) Q=some r) (0,(ag.mk p.ak p.aa p.aH p.aM ad Sl.nil E.1)) b wA ?_
      rintro ⟨K,v⟩ b bE a3;refine ar fun bF a4=>Y3 ?_;refine aT Z8.c p.au fun bJ=>Y2 ?_;refine ah.bL (fun l=>Option.bind (oe a0 l v) Q=some r) b rfl (fun bK R a5 b=>?_) (fun a5 b=>?_)
      ·rw [oe] at b;refine sk a4 ?_
       refine cT (tl [1,2,3,4,5,7,8,9,10]) (fun(z:ag)=>[]) (fun z=>[ai.c ai.zero,([Sl.d 7 ag.c (some g) m.aj]),((bI .i64) z.ak++aB z.aa++(fun s=>[Sl.d 1 aB none s]) z.aH++(fun s=>[Sl.d 2 aD.c none s]) z.aM++(fun s=>[Sl.d 5 Z6.c none s]) z.an++[Sl.d 2 Z8.c (some B) z.au]++(fun s=>[Sl.d 10 Z7.c none s]) z.ay)]) (fun z=>(tS (tS H g 7 m.aj) B 2 z.au)) (fun z=>Option.bind (oe a0 (p.au.l.drop (K+1)) z) Q=some r) ?_ ?_
       ·intro bM al;refine Y5 ?_;obtain⟨bN,a6,b⟩:=vO R b;refine Sd (ix Z8.c K a6) (Y2 ?_);obtain⟨bO,a7,b⟩:=vO rfl b;refine cH rfl rfl (CP a7) (Y2 ?_);obtain⟨bP,ao,b⟩:=cM b;refine cO b (fun a8 b=>?_) (fun a8 b=>?_)
        ·refine ah.draw rfl ?_;refine Y4 ?_;obtain⟨bQ,a9,b⟩:=vO R b;refine Sd (ix Z8.c K a9) (Y2 ?_);obtain⟨ap,a_,b⟩:=qO rfl b;refine aN.sH (iM (f:=Z8.c) (TK rfl) rfl (TK rfl) (TK rfl) ⟨_,rfl⟩ rfl rfl (by decide) rfl rfl rfl rfl aA rfl a_) rfl ?_;refine aN.Dh (tS (tS H g 7 m.aj) B 2 ap) ?_;refine Y1 ?_
         refine aN.gD (jC (TK rfl) rfl rfl rfl rfl (by repeat (first|exact bn.zero|apply bn.succ)) (by repeat (first|exact bn.zero|apply bn.succ))) ?_;refine Y1 ?_;exact al _ (ag.mk v.ak v.aa v.aH v.aM v.an ap v.ay) wA (ku ao b:)
        refine ah.skip ?_;exact al _ v wA (ku ao b:)
       rintro a' b;refine Y5 ?_;exact a3 _ ((K+1),a') wA b (dl R)
      rw [oe] at b;have b:=ku a2 b;refine ah.exit ?_;exact ae _ v (ck.trans (ck.cq 2 _ rfl (fun j w cs hh hx=>iE 5 hx rfl)) ((ck.toFA (by(intro F av q); (have ba:F≠B:=fun G=>by rw [G] at q; simp [af.set,P,a1] at q); (rw [<- q]); (simp only [af.set,if_neg ba]); (first|done|rfl))))) b
     refine ah.skip ?_;exact ae _ (ag.mk p.ak p.aa p.aH p.aM ad p.au E.1) wA b
    rintro C b;have b:=ku aX b;refine Y3 ?_;refine aJ.cq 2 _ rfl (fun j w cs hh hx=>AV 2 1 hx rfl) ?_;refine Y1 ?_;refine ah.tok 1 fun u L=>?_;obtain⟨aw,L⟩:=af.dW L;refine ah.cq 2 _ rfl (fun j w cs hh hx=>tok_cell 2 1 1 hh (t:=u) aA hx rfl) ?_
    refine cT (tl [1,2,3,4,5,7]) (fun(z:ag)=>[]) (fun z=>[ai.c ai.zero,([Sl.d 7 ag.c (some g) m.aj]),((bI .i64) z.ak++aB z.aa++[Sl.d 1 aB (some u) z.aH]++(fun s=>[Sl.d 2 aD.c none s]) z.aM++(fun s=>[Sl.d 5 Z6.c none s]) z.an++(fun s=>[Sl.d 2 Z8.c none s]) z.au++(fun s=>[Sl.d 10 Z7.c none s]) z.ay)]) (fun z=>(tS (tS H g 7 m.aj) u 1 z.aH)) (fun z=>Option.bind (aY (E.2) (cF ((z.an.l.length:Nat):Int) ((z.au.l.length:Nat):Int)) (0:Int) fun ax=>aY (E.2) (cF ax ((z.ay.l.length:Nat):Int)) (0:Int) fun az=>Option.bind (bif (E.2&&(decide ((0:Int)<az))) then((bf 144 m.aj (⟨false,[z]⟩:Sl ag)).bind fun M=>some (ai.mk M)) else(some m)) fun U=>og a0 (a0.aj.l.drop (J+1)) U) I=some r) ?_ ?_
    ·intro bR bb;refine Y4 ?_;obtain⟨W,bc,b⟩:=cM b
     refine eZ (tl [1,2,3,4,5,7,9]) (fun(z:Nat×ag)=>[(11,vi z.1)]) (fun z=>[ai.c ai.zero,([Sl.d 7 ag.c (some g) m.aj]),((bI .i64) z.2.ak++aB z.2.aa++[Sl.d 1 aB (some u) z.2.aH]++(fun s=>[Sl.d 2 aD.c none s]) z.2.aM++(fun s=>[Sl.d 5 Z6.c none s]) z.2.an++(fun s=>[Sl.d 2 Z8.c none s]) z.2.au++(fun s=>[Sl.d 10 Z7.c none s]) z.2.ay)]) (fun z=>(tS (tS H g 7 m.aj) u 1 z.2.aH)) (fun z=>p.aH.l.length-z.1) (fun z=>Option.bind (pP a0 (p.aH.l.drop z.1) z.2) W=some r) (0,(ag.mk C.ak C.aa Sl.nil C.aM C.an C.au C.ay)) b wA ?_
     rintro ⟨N,y⟩ b bS bd;refine ar fun bT be=>Y3 ?_;refine aT aB p.aH fun bU=>Y2 ?_;refine ah.bL (fun l=>Option.bind (pP a0 l y) W=some r) b rfl (fun bV X bg b=>?_) (fun bg b=>?_)
     ·rw [pP] at b;refine sk be ?_
      refine cT (tl [1,2,3,4,5,7,9,11]) (fun(z:ag)=>[]) (fun z=>[ai.c ai.zero,([Sl.d 7 ag.c (some g) m.aj]),((bI .i64) z.ak++aB z.aa++[Sl.d 1 aB (some u) z.aH]++(fun s=>[Sl.d 2 aD.c none s]) z.aM++(fun s=>[Sl.d 5 Z6.c none s]) z.an++(fun s=>[Sl.d 2 Z8.c none s]) z.au++(fun s=>[Sl.d 10 Z7.c none s]) z.ay)]) (fun z=>(tS (tS H g 7 m.aj) u 1 z.aH)) (fun z=>Option.bind (pP a0 (p.aH.l.drop (N+1)) z) W=some r) ?_ ?_
      ·intro bX aC;refine Y5 ?_;obtain⟨bY,bh,b⟩:=vO X b;refine Sd (ix aB N bh) (Y1 ?_);obtain⟨b0,bi,b⟩:=vO rfl b;refine cH rfl rfl (CP bi) (Y2 ?_);obtain⟨b1,aE,b⟩:=cM b;refine cO b (fun bj b=>?_) (fun bj b=>?_)
       ·refine ah.draw rfl ?_;refine Y4 ?_;obtain⟨b2,bk,b⟩:=vO X b;refine Sd (ix aB N bk) (Y2 ?_);obtain⟨aF,bl,b⟩:=qO rfl b;refine aN.sH (iM (f:=aB) (TK rfl) rfl (TK rfl) (TK rfl) ⟨_,rfl⟩ rfl rfl (by decide) rfl rfl rfl rfl aA rfl bl) rfl ?_;refine aN.Dh (tS (tS H g 7 m.aj) u 1 aF) ?_;refine Y1 ?_
        refine aN.gD (jC (TK rfl) rfl rfl rfl rfl (by repeat (first|exact bn.zero|apply bn.succ)) (by repeat (first|exact bn.zero|apply bn.succ))) ?_;refine Y1 ?_;exact aC _ (ag.mk y.ak y.aa aF y.aM y.an y.au y.ay) wA (ku aE b:)
       refine ah.skip ?_;exact aC _ y wA (ku aE b:)
      rintro bm b;refine Y5 ?_;exact bd _ ((N+1),bm) wA b (dl X)
     rw [pP] at b;have b:=ku bc b;refine ah.exit ?_;obtain⟨b3,bo,b⟩:=gM b;exact bb _ y wA (ku bo b:)
    rintro O b;refine Y4 ?_;refine gC rfl rfl (fun hC=>nq (k:=94) rfl (jP (TK rfl) rfl rfl rfl rfl)) rfl ?_;refine bG 95 rfl (fun hC=>dK Z6.c O.an) ?_;refine Y1 ?_;refine gC rfl rfl (fun hC=>nq (k:=97) rfl (jP (TK rfl) rfl rfl rfl rfl)) rfl ?_;refine bG 98 rfl (fun hC=>dK Z8.c O.au) ?_;obtain⟨ax,bp,b⟩:=e8 rfl b;refine e9 96 99 rfl rfl (fun hC=>eC (bp hC)) ?_
    refine Y1 ?_;refine gC rfl rfl (fun hC=>nq (k:=101) rfl (jP (TK rfl) rfl rfl rfl rfl)) rfl ?_;refine bG 102 rfl (fun hC=>dK Z7.c O.ay) ?_;obtain⟨az,bq,b⟩:=e8 rfl b;refine e9 100 103 rfl rfl (fun hC=>eC (bq hC)) ?_;refine Gk 104 ?_;refine Y2 ?_;obtain⟨b4,aG,b⟩:=cM b;refine cO b (fun br b=>?_) (fun br b=>?_)
    ·refine ah.cq 2 _ rfl (fun j w cs hh hx=>iE 2 hx rfl) ?_;refine Y5 ?_;obtain⟨M,bs,b⟩:=qO rfl b;refine SH (am ag.c (TK rfl) rfl (TK rfl) (TK rfl) bs) ?_;refine hq (tS (tS H g 7 M) u 1 O.aH) (Y3 ?_);have b:=ku aG b
     exact ab _ (ai.mk M) (ck.toFA (by(intro F av q); (have Y:F≠u:=fun G=>by rw [G] at q; simp [af.set,L,aw] at q); (rw [<- q]); (simp only [af.set,if_neg Y]); (first|done|rfl))) b
    refine ah.skip ?_;have b:=ku aG b;exact ab _ m (ck.toFA (by(intro F av q); (have Y:F≠u:=fun G=>by rw [G] at q; simp [af.set,L,aw] at q); (rw [<- q]); (simp only [af.set,if_neg Y]); (first|done|rfl))) b
   rintro U b;refine Y5 ?_;exact aL _ ((J+1),U) wA b (dl Z)
  rw [og] at b;have b:=ku aK b;refine ah.exit ?_;obtain⟨b5,bt,b⟩:=bW b;exact aI _ m wA (ku bt b:)
 rintro b6 b;refine ar fun b7 bu=>ah.cq 1 _ rfl (fun j w cs hh hx=>iE 0 hx rfl) ?_;refine Y4 ?_;refine bu _ ?_;refine ry ?_;obtain rfl:=oJ b;refine bH.b9 H rfl ⟨rfl,rfl⟩ ?_;exact sy
def q7 :List Z6->Int->Option (Int)
 | [],b=>some b
 | f::g,b=>on (f) fun j=>(cF b ((j.az.l.length:Nat):Int)).bind fun k=>q7  (g) k
def pQ :List ag->Int->Option (Int)
 | [],f=>some f
 | g::j,f=>on (g) fun b=>(cF ((b.an.l.length:Nat):Int) ((b.au.l.length:Nat):Int)).bind fun k=>(cF k ((b.ay.l.length:Nat):Int)).bind fun m=>(cF m ((b.aH.l.length:Nat):Int)).bind fun p=>(cF f p).bind fun q=>Option.bind (q7  b.an.l q) fun r=>on (r) fun s=>pQ  (j) s
def zC (a0:ai):Option Int:=Option.bind (pQ  a0.aj.l ((a0.aj.l.length:Nat):Int)) fun b=>on (b) fun f=>some f
def z_ (a0:ai):Option Int:=zC a0
theorem Ck (a0:ai):z_ a0=zC a0:=rfl
theorem Np {a0 r}(b:z_ a0=some r) (H:af) :AC Tryz.prog 49 [.agg (ai.c a0)] H (RT (.a (.d (.int .i64 r))) H):=by
 unfold z_ zC at b;refine AC.oW 56 [.tmp 2] Tryz.call49 Tryz.func49 ?_;refine Y7 ?_;refine aT ag.c a0.aj fun aa=>Y2 ?_;refine aR kN (fun(z:Int)=>[(3,.a (.d (.int .i64 z)))]) (fun z=>H) (fun z=>(some z)=some r) ?_ ?_
 ·intro ab u;refine Y4 ?_;obtain⟨g,v,b⟩:=bZ b;refine bD (tl [1]) (fun(z:Int×Nat)=>[(3,.a (.d (.int .i64 z.1))),(4,vi z.2)]) (fun z=>H) (fun z=>a0.aj.l.length-z.2) (fun z=>Option.bind (pQ  (a0.aj.l.drop z.2) z.1) g=some r) (((a0.aj.l.length:Nat):Int),0) b wA ?_;rintro ⟨k,j⟩ b ad w;refine ar fun ae y=>Y4 ?_;refine aT ag.c a0.aj fun ak=>Y2 ?_
  refine ah.bL (fun l=>Option.bind (pQ  l k) g=some r) b rfl (fun al m B b=>?_) (fun B b=>?_)
  ·rw [pQ] at b;refine sk y (aR (tl [1,4]) (fun(z:Int)=>[(3,.a (.d (.int .i64 z)))]) (fun z=>H) (fun z=>Option.bind (pQ  (a0.aj.l.drop (j+1)) z) g=some r) ?_ ?_)
   ·intro am C;refine Y5 ?_;obtain⟨f,E,b⟩:=vO m b;refine S (ix ag.c j E) (Y4 ?_);refine bx 5 _ rfl (kl [1,3,4]) ?_;refine Y4 ?_;refine aT Z6.c f.an fun ao=>Y2 ?_;refine aT Z8.c f.au fun ap=>?_;obtain⟨av,F,b⟩:=qO rfl b;refine S (eC F) (Y2 ?_);refine aT Z7.c f.ay fun aw=>?_;obtain⟨ax,G,b⟩:=qO rfl b;refine S (eC G) (Y2 ?_)
    refine aT aB f.aH fun aC=>?_;obtain⟨aD,I,b⟩:=qO rfl b;refine S (eC I) ?_;obtain⟨J,K,b⟩:=qO rfl b;refine S (eC K) (Y6 ?_);obtain⟨p,L,b⟩:=cM b;refine bD (tl [1,4,5]) (fun(z:Int×Nat)=>[(3,.a (.d (.int .i64 z.1))),(6,vi z.2)]) (fun z=>H) (fun z=>f.an.l.length-z.2) (fun z=>Option.bind (q7  (f.an.l.drop z.2) z.1) p=some r) (J,0) b wA ?_
    rintro ⟨q,s⟩ b aE M;refine ar fun aF N=>Y4 ?_;refine aT Z6.c f.an fun aG=>Y2 ?_;refine ah.bL (fun l=>Option.bind (q7  l q) p=some r) b rfl (fun aI t O b=>?_) (fun O b=>?_)
    ·rw [q7] at b;refine sk N (ar fun aK P=>Y6 ?_);obtain⟨Q,R,b⟩:=vO t b;refine S (ix Z6.c s R) (Y2 ?_);refine aT Z7.c Q.az fun aL=>?_;obtain⟨U,W,b⟩:=qO rfl b;refine S (eC W) (Y2 ?_);refine P _ ?_;refine Y5 ?_;exact M _ (U,(s+1)) wA b (dl t)
    rw [q7] at b;have b:=ku L b;refine ah.exit ?_;obtain⟨aM,X,b⟩:=gM b;exact C _ q wA (ku X b:)
   rintro Y b;refine Y5 ?_;exact w _ (Y,(j+1)) wA b (dl m)
  rw [pQ] at b;have b:=ku v b;refine ah.exit ?_;obtain⟨aP,Z,b⟩:=bW b;exact u _ k wA (ku Z b:)
 rintro aQ b;refine Y4 ?_;exact rt b
def Gl  (b:ai) (f:ai):Option ai:=some b
def q_ :Nat->ai->ai->Option ai
 | 0,_,_=>none
 | g+1,f,b=>(z_ b).bind fun j=>(z_ f).bind fun k=>bif (decide (j<k)) then((z8 b).bind fun l=>(q_  g) b l) else(Gl   f b)
def Cn (a0:ai) (b:(Sl Bs)) (f:(Sl Bs)):Option ai:=(CO a0 b f).bind fun x3=>(z8 x3).bind fun x5=>q_ F0 x3 x5
theorem XF {a0 j k l m r}(b:Cn a0 j k=some r) (H:af) :AC Tryz.prog 23 [.agg (ai.c a0),.d (Sl.d 1 aB l j),.d (Sl.d 1 aB m k)] H (RT (.a (.agg (ai.c r))) H):=by
 unfold Cn at b;refine AC.oW 24 [.cell 6 24] Tryz.call23 Tryz.func23 ?_;refine Y8 ?_;obtain⟨x3,p,b⟩:=bO b;refine Sc rfl rfl (XD p) (Y5 ?_);obtain⟨x5,q,b⟩:=bO b;refine Sc rfl rfl (No q) (Y3 ?_);refine cT (tl [6,7]) (fun(z:ai×ai)=>[]) (fun z=>[ai.c ai.zero,ai.c z.1,ai.c z.2]) (fun z=>H) (fun z=>Gl z.1 z.2=some r) ?_ ?_
 ·intro F s;refine Y1 ?_;refine eZ (tl [6,7,8]) (fun(z:Nat×ai×ai)=>[]) (fun z=>[ai.c ai.zero,ai.c z.2.1,ai.c z.2.2]) (fun z=>H) (fun z=>z.1) (fun z=>q_ z.1 z.2.1 z.2.2=some r) (F0,x3,x5) b wA ?_;rintro ⟨f,t,g⟩ b G u;cases f with
  | zero=>cases b
  | succ f =>
    rw [q_] at b;refine ar fun I v=>Y2 ?_;obtain⟨J,w,b⟩:=bO b;refine cH rfl rfl (Np w) (Y1 ?_);obtain⟨K,y,b⟩:=bO b;refine cH rfl rfl (Np y) (Y2 ?_);refine cE b (fun B b=>?_) (fun B b=>?_)
    ·refine sk v (Y7 ?_);obtain⟨C,E,b⟩:=bO b;refine Sc rfl rfl (No E) (Y2 ?_);exact u _ (f,g,C) wA b (nS _)
    refine ah.exit ?_;exact s _ (t,g) wA b
 rintro ⟨L,M⟩ b;unfold Gl at b;refine Y4 ?_;exact rt b
def Me (a0:ai) (b:(Sl Bs)) (f:(Sl Bs)):Option ai:=Cn a0 b f
def yR (a0:ai) (b:(Sl Bs)) (f:(Sl Bs)):Option (ai×(Sl Z5)):=(Me a0 b f).bind fun x3=>(wQ x3).bind fun x5=>bif (decide ((0:Int)<((x5.l.length:Nat):Int))) then(some ((ai.mk Sl.nil),x5)) else(some (x3,(Sl.nil:Sl Z5)))
theorem QW {a0 f g j k r}(b:yR a0 f g=some r) (H:af) :AC Tryz.prog 8 [.agg (ai.c a0),.d (Sl.d 1 aB j f),.d (Sl.d 1 aB k g)] H (RT (.cI [.agg (ai.c r.1),.d (Sl.d 2 Z5.c none r.2)]) H):=by
 unfold yR at b;refine AC.oW 22 [.cell 6 24,.tmp 7] Tryz.call8 Tryz.func8 ?_;refine Y3 ?_;refine s0 (di (k':=2) rfl) rfl ?_;refine Y5 ?_;obtain⟨x3,l,b⟩:=qT rfl b;refine Sc rfl rfl (XF l) (Y3 ?_);refine bx 8 _ rfl (kl [6]) ?_;refine Y2 ?_;obtain⟨x5,m,b⟩:=qT rfl b;refine Sc rfl rfl (Mq m) (Y2 ?_);refine ar fun s p=>Y2 ?_;refine aT Z5.c x5 fun t=>Y2 ?_
 refine cE b (fun q b=>?_) (fun q b=>?_)
 ·refine Y6 ?_;exact rt b
 refine sk p (Y3 ?_);refine s0 (di (k':=2) rfl) rfl ?_;refine Y1 ?_;exact rt b
def tN (f:(Sl Bs)):List Bs->Nat->Option (Unit ⊕ Bool)
 | [],b=>some (Sum.inl ())
 | g::j,b=>on (g) fun k=>(f.l[b]?).bind fun m=>bif (!(k==m)) then(some (Sum.inr false)) else(tN f (j) (b+1) )
def yL (a0:(Sl Bs)) (b:(Sl Bs)):Option Bool:=bif (!decide (((a0.l.length:Nat):Int)=((b.l.length:Nat):Int))) then(some false) else(Option.bind (tN b a0.l 0 ) fun f=>match f with|Sum.inl _=>(on (()) fun _=>some true)|Sum.inr g=>(some g))
theorem QK {a0 f w0 p r}(b:yL a0 f=some r) (H:af) :AC Tryz.prog 50 [.d (Sl.d 1 aB w0 a0),.d (Sl.d 1 aB p f)] H (RT (.a (.d (.bool r))) H):=by
 unfold yL at b;refine AC.oW 26 [.tmp 4] Tryz.call50 Tryz.func50 ?_;refine Y3 ?_;refine ar fun G q=>Y2 ?_;refine aT aB a0 fun I=>Y1 ?_;refine aT aB f fun J=>Y2 ?_;refine cE b (fun s b=>?_) (fun s b=>?_)
 ·refine Y3 ?_;exact rt b
 refine sk q (aR kN (fun(z:Unit)=>[]) (fun z=>H) (fun z=>(some true)=some r) ?_ ?_)
 ·intro K t;refine Y4 ?_;obtain⟨j,k,b⟩:=bZ b;refine bD (tl [0,1]) (fun(z:Nat)=>[(5,vi z)]) (fun z=>H) (fun z=>a0.l.length-z) (fun z=>Option.bind (tN f (a0.l.drop z) z ) j=some r) 0 b wA ?_;rintro g b L u;refine ar fun M v=>Y3 ?_;refine aT aB a0 fun N=>Y2 ?_
  refine ah.bL (fun l=>Option.bind (tN f l g ) j=some r) b rfl (fun O m w b=>?_) (fun w b=>?_)
  ·rw [tN] at b;refine sk v (ar fun P y=>Y4 ?_);obtain⟨Q,B,b⟩:=vO m b;refine Sd (ix aB g B) (Y3 ?_);obtain⟨R,C,b⟩:=qO rfl b;refine Sd (ix aB g C) (Y3 ?_);refine cO b (fun E b=>?_) (fun E b=>?_)
   ·refine Y3 ?_;exact rs (ku k b:)
   refine sk y (Y5 ?_);exact u _ (g+1) wA b (dl m)
  rw [tN] at b;have b:=ku k b;refine ah.exit ?_;obtain⟨S,F,b⟩:=bW b;exact t _ () wA (ku F b:)
 rintro _ b;refine Y3 ?_;exact rt b
end Go.Proofs
