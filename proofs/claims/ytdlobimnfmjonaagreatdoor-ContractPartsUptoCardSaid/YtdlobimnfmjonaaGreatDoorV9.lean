import Derived.Test.YtdlobimnfmjonaaGreatDoorV8
set_option maxRecDepth 100000
set_option maxHeartbeats 2000000
set_option linter.unusedVariables false
set_option linter.unusedSimpArgs false
namespace Go.Proofs
open Go Go.Ab
open aK an ag dJ fN
attribute [local irreducible] aK aN ag an
variable {au:bS}
def NK (a0:Bs):(Sl aA):=(⟨false,[(aA.mk [116,97,103] (⟨false,[(bT.mk [110,97,109,101] (Z9.mk 3 0 a0 true [] Sl.nil))]⟩:Sl bT))]⟩:Sl aA)
def GG (a0:Bs):Option (Sl aA):=some (NK a0)
theorem XP {a0 r}(b:GG a0=some r) (H:af) :At 16 [.d (.str a0)] H (RT (.a (.d (Sl.d 2 aA.c none r))) H):=by
 unfold GG NK at b;refine AC.oW 9 [.tmp 2] Tryz.call16 Tryz.func16 ?_;refine Y1 ?_;refine s0 (dM (k':=2) rfl) rfl ?_;refine pq ?_;exact rt b
def yj (g:ak) (f:Bs->ak->(List Bs)->Option (List Bs)):List Z7->(List Bs)->Option ((List Bs))
 | [],b=>some b
 | j::k,b=>on (j) fun l=>(f l.av.aa g b).bind fun m=>yj g f (k) m
def vI (g:ak) (b:Bs->ak->(List Bs)->Option (List Bs)):List Z6->(List Bs)->Option ((List Bs))
 | [],f=>some f
 | k::m,f=>on (k) fun j=>(b j.av.aa g f).bind fun p=>Option.bind (yj g b j.ay.l p) fun q=>on (q) fun r=>vI g b (m) r
def vJ (g:ak) (f:Bs->ak->(List Bs)->Option (List Bs)):List Z7->(List Bs)->Option ((List Bs))
 | [],b=>some b
 | j::k,b=>on (j) fun l=>(f l.av.aa g b).bind fun m=>vJ g f (k) m
def rR (j:ak) (f:(ah×Bool)) (g:Bs->ak->(List Bs)->Option (List Bs)):List Z8->(List Bs)->Option ((List Bs))
 | [],b=>some b
 | k::l,b=>on (k) fun m=>Option.bind (bif (decide (f.1.ai=(3:Int))) then((g m.aa j b).bind fun p=>some p) else(some b)) fun q=>rR j f g (l) q
def rS (g:ak) (f:Bs->ak->(List Bs)->Option (List Bs)):List Bs->(List Bs)->Option ((List Bs))
 | [],b=>some b
 | j::k,b=>on (j) fun l=>(f l g b).bind fun m=>rS g f (k) m
def o4 (a0:Bs) (k:ak) (f:(ah×Bool)) (g:Bs->ak->(List Bs)->Option (List Bs)):List ah->(List Bs)->Option ((List Bs))
 | [],b=>some b
 | l::m,b=>on (l) fun j=>on (bif (decide (f.1.ai=(2:Int))) then lX j.aM a0 else false) fun p=>Option.bind (bif ((decide (f.1.ai=(2:Int)))&&p) then((g j.aa k b).bind fun q=>some q) else(some b)) fun r=>o4 a0 k f g (m) r
def eP:Nat->Bs->ak->(List Bs)->Option (List Bs)
 | 0,_,_,_=>none
 | n+1,a0,f,g=>on (fA f a0) fun b=>bif ((!b.2)||(g.contains a0)) then(some g) else(Option.bind (vI f (eP n) b.1.aq.l (cD g a0)) fun j=>on (j) fun k=>Option.bind (vJ f (eP n) b.1.aF.l k) fun m=>on (m) fun p=>Option.bind (rR f b (eP n) b.1.ax.l p) fun q=>on (q) fun r=>Option.bind (rS f (eP n) b.1.aM.l r) fun s=>on (s) fun t=>Option.bind (o4 a0 f b (eP n) f.aj.l t) fun u=>some u)
def GH (n:Nat):Prop:=∀{a0:Bs}{a1:ak}{a2:(List Bs)}  {c2:Nat}{c3:Nat}{r:(List Bs)},eP n a0 a1 a2=some r->∀(H:af) (b:H c2=some (.map (bR a2))) (f:H c3=some (.cells [.func 31 [.view (ak.c a1),.view [.map c2],.ptr c3 0]])),At 31 [.d (.str a0),.d (.view (ak.c a1)),.d (.view [.map c2]),.d (.ptr c3 0)] H (RT (.cL []) ((H.set c2 (some (.map (bR r))))))
theorem XQ (n:Nat) (q:GH (au:=au) n):GH (au:=au) (n+1):=by
 intro a0 f ad  c2 c3 r b H bI bK;rw [eP] at b;refine AC.oW 120 [] Tryz.call31 Tryz.func31 ?_;have bL:c3≠c2:=fun ae=>by subst ae; simp_all
 refine hz (H.set c2 (some (.map (bR ad)))) (Y3 ?_);obtain⟨g,ai,b⟩:=dQ b;refine Sc rfl rfl (oP ai) (Y7 ?_);refine bC 5 _ rfl (kl [0,1,2,3,6]) ?_;refine ar fun bM ak=>Y6 ?_;refine fJ 28 29 rfl rfl (fun hC=>uH (TK rfl) rfl (TK rfl) (TK rfl) rfl rfl rfl rfl az) ?_;refine Y2 ?_;refine cE b (fun al b=>?_) (fun al b=>?_)
 ·exact rt b
 refine sk ak (Y3 ?_);refine dB (mapUpdate (TK rfl) rfl (TK rfl) rfl rfl rfl rfl az (sn _ _) rfl) rfl rfl ?_;refine Y1 ?_
 refine aO (tl [0,1,3,5]) (fun(z:(List Bs))=>[]) (fun z=>(H.set c2 (some (.map (bR z))))) (fun z=>(Option.bind (vJ f (eP n) g.1.aF.l z) fun t=>on (t) fun u=>Option.bind (rR f g (eP n) g.1.ax.l u) fun m=>on (m) fun s=>Option.bind (rS f (eP n) g.1.aM.l s) fun k=>on (k) fun p=>Option.bind (o4 a0 f g (eP n) f.aj.l p) fun j=>some j)=some r) ?_ ?_
 ·intro bN am;refine Y3 ?_;refine aU Z6.c g.1.aq fun bO=>Y3 ?_;obtain⟨v,ao,b⟩:=bZ b;refine bz (tl [0,1,3,5,35,36]) (fun(z:Nat×(List Bs))=>[(37,vi z.1)]) (fun z=>(H.set c2 (some (.map (bR z.2))))) (fun z=>g.1.aq.l.length-z.1) (fun z=>Option.bind (vI f (eP n) (g.1.aq.l.drop z.1) z.2) v=some r) (0,(cD ad a0)) b wA ?_;rintro ⟨w,G⟩ b bP ap;refine Y3 ?_
  refine ar fun bQ av=>?_;refine ag.bJ (fun l=>Option.bind (vI f (eP n) l G) v=some r) b rfl (fun bS I aw b=>?_) (fun aw b=>?_)
  ·rw [vI] at b;refine sk av (aO (tl [0,1,3,5,35,36,37]) (fun(z:(List Bs))=>[]) (fun z=>(H.set c2 (some (.map (bR z))))) (fun z=>Option.bind (vI f (eP n) (g.1.aq.l.drop (w+1)) z) v=some r) ?_ ?_)
   ·intro bT aA;refine Y2 ?_;obtain⟨y,aB,b⟩:=vO I b;refine S (ix Z6.c w aB) (Y4 ?_);refine bC 8 _ rfl (kl [0,1,3,5,35,36,37]) ?_;refine Y5 ?_;obtain⟨aC,aD,b⟩:=aJ b;refine sH (bV rfl rfl (q aD _ az az)) rfl ?_;refine Y4 ?_;refine aU Z7.c y.ay fun bX=>Y3 ?_;obtain⟨J,aE,b⟩:=dA b
    refine bz (tl [0,1,3,5,35,36,37,47,48]) (fun(z:Nat×(List Bs))=>[(49,vi z.1)]) (fun z=>(H.set c2 (some (.map (bR z.2))))) (fun z=>y.ay.l.length-z.1) (fun z=>Option.bind (yj f (eP n) (y.ay.l.drop z.1) z.2) J=some r) (0,aC) b wA ?_;rintro ⟨K,L⟩ b bY aH;refine Y3 ?_;refine ar fun b0 aI=>?_
    refine ag.bJ (fun l=>Option.bind (yj f (eP n) l L) J=some r) b rfl (fun b1 M aL b=>?_) (fun aL b=>?_)
    ·rw [yj] at b;refine sk aI (ar fun b2 aP=>Y2 ?_);obtain⟨b3,aR,b⟩:=vO M b;refine S (ix Z7.c K aR) (Y4 ?_);refine bC 10 _ rfl (kl [0,1,3,5,35,36,37,47,48,49]) ?_;refine Y5 ?_;obtain⟨aS,aV,b⟩:=aJ b;refine sH (bV rfl rfl (q aV _ az az)) rfl ?_;refine Y1 ?_;refine aP _ ?_;refine Y4 ?_;exact aH _ ((K+1),aS) wA b (dl M)
    rw [yj] at b;have b:=ku aE b;refine ag.exit ?_;obtain⟨b4,aW,b⟩:=iy b;exact aA _ L wA (ku aW b:)
   rintro aX b;refine Y4 ?_;exact ap _ ((w+1),aX) wA b (dl I)
  rw [vI] at b;have b:=ku ao b;refine ag.exit ?_;obtain⟨b5,aY,b⟩:=bW b;exact am _ G wA (ku aY b:)
 rintro aZ b;refine aO (tl [0,1,3,5]) (fun(z:(List Bs))=>[]) (fun z=>(H.set c2 (some (.map (bR z))))) (fun z=>(Option.bind (rR f g (eP n) g.1.ax.l z) fun m=>on (m) fun s=>Option.bind (rS f (eP n) g.1.aM.l s) fun k=>on (k) fun p=>Option.bind (o4 a0 f g (eP n) f.aj.l p) fun j=>some j)=some r) ?_ ?_
 ·intro b6 a1;refine Y3 ?_;refine aU Z7.c g.1.aF fun b7=>Y3 ?_;obtain⟨N,a2,b⟩:=bZ b;refine bz (tl [0,1,3,5,61,62]) (fun(z:Nat×(List Bs))=>[(63,vi z.1)]) (fun z=>(H.set c2 (some (.map (bR z.2))))) (fun z=>g.1.aF.l.length-z.1) (fun z=>Option.bind (vJ f (eP n) (g.1.aF.l.drop z.1) z.2) N=some r) (0,aZ) b wA ?_;rintro ⟨O,t⟩ b b8 a3;refine Y3 ?_
  refine ar fun b9 a4=>?_;refine ag.bJ (fun l=>Option.bind (vJ f (eP n) l t) N=some r) b rfl (fun b_ P a5 b=>?_) (fun a5 b=>?_)
  ·rw [vJ] at b;refine sk a4 (ar fun b' a6=>Y2 ?_);obtain⟨ca,a7,b⟩:=vO P b;refine S (ix Z7.c O a7) (Y4 ?_);refine bC 12 _ rfl (kl [0,1,3,5,61,62,63]) ?_;refine Y5 ?_;obtain⟨a8,a9,b⟩:=aJ b;refine sH (bV rfl rfl (q a9 _ az az)) rfl ?_;refine Y1 ?_;refine a6 _ ?_;refine Y4 ?_;exact a3 _ ((O+1),a8) wA b (dl P)
  rw [vJ] at b;have b:=ku a2 b;refine ag.exit ?_;obtain⟨cb,a_,b⟩:=bW b;exact a1 _ t wA (ku a_ b:)
 rintro u b;refine aO (tl [0,1,3,5]) (fun(z:(List Bs))=>[]) (fun z=>(H.set c2 (some (.map (bR z))))) (fun z=>(Option.bind (rS f (eP n) g.1.aM.l z) fun k=>on (k) fun p=>Option.bind (o4 a0 f g (eP n) f.aj.l p) fun j=>some j)=some r) ?_ ?_
 ·intro cc a';refine Y3 ?_;refine aU Z8.c g.1.ax fun cd=>Y3 ?_;obtain⟨B,ba,b⟩:=bZ b;refine bz (tl [0,1,3,5,74,75]) (fun(z:Nat×(List Bs))=>[(76,vi z.1)]) (fun z=>(H.set c2 (some (.map (bR z.2))))) (fun z=>g.1.ax.l.length-z.1) (fun z=>Option.bind (rR f g (eP n) (g.1.ax.l.drop z.1) z.2) B=some r) (0,u) b wA ?_;rintro ⟨C,m⟩ b ce bb;refine Y3 ?_
  refine ar fun cf bc=>?_;refine ag.bJ (fun l=>Option.bind (rR f g (eP n) l m) B=some r) b rfl (fun cg Q bd b=>?_) (fun bd b=>?_)
  ·rw [rR] at b;refine sk bc (aO (tl [0,1,3,5,74,75,76]) (fun(z:(List Bs))=>[]) (fun z=>(H.set c2 (some (.map (bR z))))) (fun z=>Option.bind (rR f g (eP n) (g.1.ax.l.drop (C+1)) z) B=some r) ?_ ?_)
   ·intro ch R;refine Y2 ?_;obtain⟨ci,be,b⟩:=vO Q b;refine S (ix Z8.c C be) (Y4 ?_);refine bC 14 _ rfl (kl [0,1,3,5,74,75,76]) ?_;refine Y5 ?_;obtain⟨cj,U,b⟩:=dA b;refine cO b (fun bf b=>?_) (fun bf b=>?_)
    ·refine Y4 ?_;obtain⟨bg,bh,b⟩:=aJ b;refine sH (bV rfl rfl (q bh _ az az)) rfl ?_;refine Y1 ?_;exact R _ bg wA (ku U b:)
    refine ag.skip ?_;exact R _ m wA (ku U b:)
   rintro bi b;refine Y4 ?_;exact bb _ ((C+1),bi) wA b (dl Q)
  rw [rR] at b;have b:=ku ba b;refine ag.exit ?_;obtain⟨ck,bj,b⟩:=bW b;exact a' _ m wA (ku bj b:)
 rintro s b;refine aO (tl [0,1,3,5]) (fun(z:(List Bs))=>[]) (fun z=>(H.set c2 (some (.map (bR z))))) (fun z=>(Option.bind (o4 a0 f g (eP n) f.aj.l z) fun j=>some j)=some r) ?_ ?_
 ·intro cl bk;refine Y3 ?_;refine aU aG g.1.aM fun cm=>Y3 ?_;obtain⟨W,bl,b⟩:=bZ b;refine bz (tl [0,1,3,5,89,90]) (fun(z:Nat×(List Bs))=>[(91,vi z.1)]) (fun z=>(H.set c2 (some (.map (bR z.2))))) (fun z=>g.1.aM.l.length-z.1) (fun z=>Option.bind (rS f (eP n) (g.1.aM.l.drop z.1) z.2) W=some r) (0,s) b wA ?_;rintro ⟨X,k⟩ b cn bm
  refine Y3 ?_;refine ar fun co bn=>?_;refine ag.bJ (fun l=>Option.bind (rS f (eP n) l k) W=some r) b rfl (fun cp Y bo b=>?_) (fun bo b=>?_)
  ·rw [rS] at b;refine sk bn (ar fun cq bp=>Y2 ?_);obtain⟨cr,bq,b⟩:=vO Y b;refine S (ix aG X bq) (Y6 ?_);obtain⟨br,bs,b⟩:=aJ b;refine sH (bV rfl rfl (q bs _ az az)) rfl ?_;refine Y1 ?_;refine bp _ ?_;refine Y4 ?_;exact bm _ ((X+1),br) wA b (dl Y)
  rw [rS] at b;have b:=ku bl b;refine ag.exit ?_;obtain⟨cs,bt,b⟩:=bW b;exact bk _ k wA (ku bt b:)
 rintro p b;refine Y3 ?_;refine aU ah.c f.aj fun ct=>Y3 ?_;obtain⟨E,bu,b⟩:=bZ b;refine bz (tl [0,3,5,100,101]) (fun(z:Nat×(List Bs))=>[(102,vi z.1)]) (fun z=>(H.set c2 (some (.map (bR z.2))))) (fun z=>f.aj.l.length-z.1) (fun z=>Option.bind (o4 a0 f g (eP n) (f.aj.l.drop z.1) z.2) E=some r) (0,p) b wA ?_;rintro ⟨F,j⟩ b cu bv;refine Y3 ?_
 refine ar fun cv bw=>?_;refine ag.bJ (fun l=>Option.bind (o4 a0 f g (eP n) l j) E=some r) b rfl (fun cx Z bx b=>?_) (fun bx b=>?_)
 ·rw [o4] at b;refine sk bw (aO (tl [0,3,5,100,101,102]) (fun(z:(List Bs))=>[]) (fun z=>(H.set c2 (some (.map (bR z))))) (fun z=>Option.bind (o4 a0 f g (eP n) (f.aj.l.drop (F+1)) z) E=some r) ?_ ?_)
  ·intro cy aa;refine Y2 ?_;obtain⟨cz,bA,b⟩:=vO Z b;refine S (ix ah.c F bA) (Y4 ?_);refine bC 18 _ rfl (kl [0,3,5,100,101,102]) ?_;refine Y6 ?_;refine Gk 110 ?_;refine Y1 ?_;obtain⟨cA,bB,b⟩:=ee (fun _=>rfl) b;refine fS 111 112 rfl rfl rfl rfl rfl rfl (fun hC=>xQ (bB hC)) ?_;refine Y2 ?_;obtain⟨cB,ab,b⟩:=dA b;refine cO b (fun bD b=>?_) (fun bD b=>?_)
   ·refine Y4 ?_;obtain⟨bF,bG,b⟩:=aJ b;refine sH (bV rfl rfl (q bG _ az az)) rfl ?_;refine Y1 ?_;exact aa _ bF wA (ku ab b:)
   refine ag.skip ?_;exact aa _ j wA (ku ab b:)
  rintro bH b;refine Y4 ?_;exact bv _ ((F+1),bH) wA b (dl Z)
 rw [o4] at b;have b:=ku bu b;refine ag.exit ?_;repeat (first|refine fQ ?_|refine fP ?_|refine fO ?_)
 obtain rfl:=oJ b;refine bU.gj (H.set c2 (some (.map (bR j)))) (xs:=[]) rfl ⟨rfl,rfl⟩ ?_;exact(fun _ _ h=>h)
theorem NL:∀(n:Nat),(GH (au:=au) n)
 | 0=>fun b=>by first|cases b|(rw [eP] at b; cases b)
 | n+1=>XQ n (NL n)
def NM (a0:Bs) (b:ak) (f:(List Bs)):Option (List Bs):=eP F0 a0 b f
theorem XR {a0 b f c2 c3 r}(g:NM a0 b f=some r) (H:af) (j:H c2=some (.map (bR f))) (k:H c3=some (.cells [.func 31 [.view (ak.c b),.view [.map c2],.ptr c3 0]])):At 31 [.d (.str a0),.d (.view (ak.c b)),.d (.view [.map c2]),.d (.ptr c3 0)] H (RT (.cL []) ((H.set c2 (some (.map (bR r)))))):=(NL F0) g H j k
def GI  (b:ak):Option ak:=some b
def C1 (b:Nat) (f:Nat->ak->Option ak) (g:ak):Option ak:=f (b+1) g
def yl (a0:ak) (f:(List Bs)) :Nat->Nat->ak->Option ak
 | 0,_,_=>none
 | j+1,b,g=>bif (decide (((b:Nat):Int)<((a0.aj.l.length:Nat):Int))) then((a0.aj.l[b]?).bind fun k=>bif (f.contains k.aa) then((p_ (Z2.mk Sl.nil Sl.nil) k).bind fun m=>(bh 144 g.aj (⟨false,[m]⟩:Sl ah)).bind fun p=>C1 b ((yl a0 f j)) (ak.mk p)) else(C1 b ((yl a0 f j)) g)) else(GI   g)
def GJ (a0:ak)  (b:(List Bs)):Option ak:=yl a0 b (a0.aj.l.length+1) 0 ak.zero
def C2 (a0:ak) :Nat->Int->(List Bs)->Option ak
 | 0,_,_=>none
 | g+1,b,f=>bif (decide (b<(3:Int))) then((c_ ([([81,117,101,114,121]:Bs),([77,117,116,97,116,105,111,110]:Bs),([83,117,98,115,99,114,105,112,116,105,111,110]:Bs)]:List Bs) b).bind fun j=>(NM j a0 f).bind fun k=>(cN b (1:Int)).bind fun l=>(C2 a0 g) l k) else(GJ a0  f)
def GK (a0:ak):Option ak:=C2 a0 F0 (0:Int) ([]:List Bs)
theorem XS {a0 r}(b:GK a0=some r) (H:af) :At 17 [.agg (ak.c a0)] H (RT (.a (.agg (ak.c r))) H):=by
 unfold GK at b;refine AC.oW 43 [.cell 2 24] Tryz.call17 Tryz.func17 ?_;refine Y5 ?_;refine sE dm.makeMap rfl (fun _ _ _ ⟨g,ao,u,v,y⟩=>?_);subst u v y;refine Y3 ?_;refine bC 3 _ rfl (kl [1,2]) ?_;refine Y1 ?_;refine sE (dm.AR (TK rfl) rfl) rfl (fun _ _ _ ⟨k,E,u,v,y⟩=>?_);subst u v y;obtain⟨ap,E⟩:=af.eA E;refine Y2 ?_
 refine s0 (makeFunc rfl) rfl ?_;refine dB (gw (TK rfl) rfl rfl az rfl (by repeat (first|exact bE.zero|apply bE.succ))) rfl rfl ?_;refine hq ((H.set g (some (.map (bR ([]:List Bs))))).set k (some (.cells [.func 31 [.view (ak.c a0),.view [.map g],.ptr k 0]]))) (Y1 ?_)
 refine aO (tl [1,2,3]) (fun(z:(List Bs))=>[]) (fun z=>((H.set g (some (.map (bR z)))).set k (some (.cells [.func 31 [.view (ak.c a0),.view [.map g],.ptr k 0]])))) (fun z=>GJ a0 z=some r) ?_ ?_
 ·intro aq K;refine Y1 ?_;refine s0 (Pw Tryz.bM Tryz.underlying83 rfl rfl rfl rfl rfl) rfl ?_;refine Y3 ?_
  refine bz (tl [1,2,3,4,13]) (fun(z:Nat×Int×(List Bs))=>[(14,.a (.d (.int .i64 z.2.1)))]) (fun z=>((H.set g (some (.map (bR z.2.2)))).set k (some (.cells [.func 31 [.view (ak.c a0),.view [.map g],.ptr k 0]])))) (fun z=>z.1) (fun z=>C2 a0 z.1 z.2.1 z.2.2=some r) (F0,(0:Int),([]:List Bs)) b wA ?_;rintro ⟨B,au,L⟩ b av M;cases B with
  | zero=>cases b
  | succ B =>
    rw [C2] at b;refine Y3 ?_;refine ar fun aw N=>?_;refine cE b (fun O b=>?_) (fun O b=>?_)
    ·refine sk N (ar fun ax P=>Y2 ?_);obtain⟨ay,Q,b⟩:=bO b;refine s0 (PP (f:=D.str) (l:=([([81,117,101,114,121]:Bs),([77,117,116,97,116,105,111,110]:Bs),([83,117,98,115,99,114,105,112,116,105,111,110]:Bs)]:List Bs)) Tryz.underlying83 Tryz.underlying9 (Tryz.bM 9 _ rfl) rfl rfl rfl rfl Q) rfl ?_;refine Y5 ?_;obtain⟨F,R,b⟩:=bO b;refine sH (bV rfl rfl (XR R _ az az)) rfl ?_
     refine hq ((H.set g (some (.map (bR F)))).set k (some (.cells [.func 31 [.view (ak.c a0),.view [.map g],.ptr k 0]]))) (Y1 ?_);refine P _ ?_;refine Y1 ?_;obtain⟨U,W,b⟩:=bO b;refine S (fp W) (Y2 ?_);exact M _ (B,U,F) wA b (nS _)
    refine ag.exit ?_;exact K _ L wA b
 rintro p b;unfold GJ at b;refine Y2 ?_;refine aK.tok 7 fun m q=>?_;obtain⟨aA,q⟩:=af.eA q;obtain⟨aB,q⟩:=af.eA q;refine aK.cU 1 _ rfl (fun j w cs hh hx=>tok_cell 0 7 7 hh (t:=m) az hx rfl) ?_;refine Y6 ?_;refine bC 8 _ rfl (kl [1,2,3,7]) ?_
 refine dS (tl [2,7]) (fun(z:ak)=>[]) (fun z=>[ak.c ak.zero,([Sl.d 7 ah.c (some m) z.aj])]) (fun z=>(((H.set g (some (.map (bR p)))).set k (some (.cells [.func 31 [.view (ak.c a0),.view [.map g],.ptr k 0]]))).set m (some (.tok 7 z.aj.l.length)))) (fun z=>GI z=some r) ?_ ?_
 ·intro aC X;refine Y3 ?_;refine aU ah.c a0.aj fun aD=>Y3 ?_
  refine gz (tl [2,3,7,8,23,24]) (fun(z:Nat×Nat×ak)=>[(25,vi z.2.1)]) (fun z=>[ak.c ak.zero,([Sl.d 7 ah.c (some m) z.2.2.aj])]) (fun z=>(((H.set g (some (.map (bR p)))).set k (some (.cells [.func 31 [.view (ak.c a0),.view [.map g],.ptr k 0]]))).set m (some (.tok 7 z.2.2.aj.l.length)))) (fun z=>z.1) (fun z=>yl a0 p z.1 z.2.1 z.2.2=some r) ((a0.aj.l.length+1),0,ak.zero) b wA ?_
  rintro ⟨s,C,G⟩ b aE Y;cases s with
  | zero=>cases b
  | succ s =>
    rw [yl] at b;refine Y3 ?_;refine ar fun aF Z=>?_;refine cE b (fun aa b=>?_) (fun aa b=>?_)
    ·refine sk Z (dS (tl [2,3,7,8,23,24,25]) (fun(z:ak)=>[]) (fun z=>[ak.c ak.zero,([Sl.d 7 ah.c (some m) z.aj])]) (fun z=>(((H.set g (some (.map (bR p)))).set k (some (.cells [.func 31 [.view (ak.c a0),.view [.map g],.ptr k 0]]))).set m (some (.tok 7 z.aj.l.length)))) (fun z=>C1 C ((yl a0 p s)) z=some r) ?_ ?_)
     ·intro aG I;refine Y2 ?_;obtain⟨aH,ab,b⟩:=bO b;refine S (ix ah.c C ab) (Y4 ?_);refine bC 10 _ rfl (kl [2,3,7,8,23,24,25]) ?_;refine Y4 ?_;refine s0 (uH (TK rfl) rfl (TK rfl) (TK rfl) rfl rfl rfl rfl az) rfl ?_;refine Y1 ?_;refine cE b (fun ad b=>?_) (fun ad b=>?_)
      ·refine ag.draw rfl ?_;refine Y4 ?_;obtain⟨aI,ae,b⟩:=bO b;refine cF rfl rfl (Wu ae) (Y1 ?_);obtain⟨J,ai,b⟩:=bO b;refine aN.sH (jy (f:=ah.c) (TK rfl) rfl (TK rfl) (TK rfl) ⟨_,rfl⟩ rfl rfl (by decide) rfl rfl rfl rfl az rfl ai) rfl ?_
       refine aN.Dh (((H.set g (some (.map (bR p)))).set k (some (.cells [.func 31 [.view (ak.c a0),.view [.map g],.ptr k 0]]))).set m (some (.tok 7 J.l.length))) ?_;refine Y1 ?_;refine aN.iT (mr (TK rfl) rfl rfl rfl rfl (by repeat (first|exact bE.zero|apply bE.succ)) (by repeat (first|exact bE.zero|apply bE.succ))) ?_;refine Y1 ?_;exact I _ (ak.mk J) wA b
      refine ag.skip ?_;exact I _ G wA b
     rintro al b;unfold C1 at b;refine Y4 ?_;exact Y _ (s,(C+1),al) wA b (nS _)
    refine ag.exit ?_;exact X _ G wA b
 rintro aJ b;unfold GI at b;refine ar fun aL am=>ag.cU 1 _ rfl (fun j w cs hh hx=>kH 0 hx rfl) ?_;refine Y4 ?_;refine am _ ?_;exact rs b
def uW :Option Bool:=(GG ([120]:Bs)).bind fun x3=>(Aa (ak.mk (⟨false,[(ah.mk 1 [81,117,101,114,121] Sl.nil Sl.nil (⟨false,[(Z6.mk [97] Sl.nil (aL.mk [73,110,116] Sl.nil) x3),(Z6.mk [98] Sl.nil (aL.mk [73,110,116] Sl.nil) (Sl.nil:Sl aA))]⟩:Sl Z6) (Sl.nil:Sl Z8) (Sl.nil:Sl Z7)),(ah.mk 1 [84] Sl.nil Sl.nil (⟨false,[(Z6.mk [97] Sl.nil (aL.mk [73,110,116] Sl.nil) (Sl.nil:Sl aA))]⟩:Sl Z6) (Sl.nil:Sl Z8) (Sl.nil:Sl Z7))]⟩:Sl ah)) (⟨false,[([120]:Bs)]⟩:Sl Bs) (Sl.nil:Sl Bs)).bind fun x5=>aZ (((decide (((x5.2.l.length:Nat):Int)=(0:Int)))&&(decide (((x5.1.aj.l.length:Nat):Int)=(1:Int))))) (x5.1.aj.l[0]?) ah.zero fun b=>aZ ((((decide (((x5.2.l.length:Nat):Int)=(0:Int)))&&(decide (((x5.1.aj.l.length:Nat):Int)=(1:Int))))&&(decide (((b.aq.l.length:Nat):Int)=(1:Int))))) (x5.1.aj.l[0]?) ah.zero fun g=>aZ ((((decide (((x5.2.l.length:Nat):Int)=(0:Int)))&&(decide (((x5.1.aj.l.length:Nat):Int)=(1:Int))))&&(decide (((b.aq.l.length:Nat):Int)=(1:Int))))) (g.aq.l[0]?) Z6.zero fun f=>aZ (((((decide (((x5.2.l.length:Nat):Int)=(0:Int)))&&(decide (((x5.1.aj.l.length:Nat):Int)=(1:Int))))&&(decide (((b.aq.l.length:Nat):Int)=(1:Int))))&&((f.aa==([97]:Bs))))) (GK (ak.mk (⟨false,[(ah.mk 1 [81,117,101,114,121] Sl.nil Sl.nil (⟨false,[(Z6.mk [97] Sl.nil (aL.mk [73,110,116] Sl.nil) x3),(Z6.mk [98] Sl.nil (aL.mk [73,110,116] Sl.nil) (Sl.nil:Sl aA))]⟩:Sl Z6) (Sl.nil:Sl Z8) (Sl.nil:Sl Z7)),(ah.mk 1 [84] Sl.nil Sl.nil (⟨false,[(Z6.mk [97] Sl.nil (aL.mk [73,110,116] Sl.nil) (Sl.nil:Sl aA))]⟩:Sl Z6) (Sl.nil:Sl Z8) (Sl.nil:Sl Z7))]⟩:Sl ah))) ak.zero fun j=>some (((((decide (((x5.2.l.length:Nat):Int)=(0:Int)))&&(decide (((x5.1.aj.l.length:Nat):Int)=(1:Int))))&&(decide (((b.aq.l.length:Nat):Int)=(1:Int))))&&((f.aa==([97]:Bs))))&&(decide (((j.aj.l.length:Nat):Int)=(1:Int))))
theorem En  {oT:Ab.Obj}{gT:Nat}{r:Bool}(b:uW =some r) (H:af) (s:H gT=some oT) (t:iw Tryz.prog oT):At 6 [] H (RT (.a (.d (.bool r))) H):=by
 unfold uW at b;refine AC.oW 59 [.tmp 0] Tryz.call6 Tryz.func6 ?_;refine Y5 ?_;obtain⟨x3,f,b⟩:=bO b;refine Sc rfl rfl (XP f) (Qr ?_);refine bC 1 _ rfl dJ.nil ?_;refine Y3 ?_;obtain⟨x5,g,b⟩:=bO b;refine s0 (eE rfl rfl (AC.HJ (.cons (.refl _) (.cons (.refl _) (.cons (nM.HI (k':=1)) .nil))) (Eo (gT:=gT) (oT:=oT) g _ az (by assumption)))) rfl ?_;refine Y7 ?_
 refine bC 2 _ rfl (kl [1,3]) ?_;refine Y2 ?_;refine aU Z5.c x5.2 fun u=>Y3 ?_;refine Gk 27 ?_;refine bI 28 rfl (fun hC=>dG ah.c x5.1.aj) ?_;refine Gk 29 ?_;refine Y3 ?_;refine Gk 33 ?_;obtain⟨j,k,b⟩:=gO b;refine bI 34 rfl (fun hC=>ix ah.c 0 (k hC)) ?_;refine Gk 35 ?_;refine Gk 36 ?_;refine bI 37 rfl (fun hC=>dG Z6.c j.aq) ?_;refine Gk 38 ?_;refine Y3 ?_;refine Gk 42 ?_
 obtain⟨v,l,b⟩:=gO b;refine bI 43 rfl (fun hC=>ix ah.c 0 (l hC)) ?_;refine Gk 44 ?_;refine Gk 45 ?_;obtain⟨w,m,b⟩:=gO b;refine bI 46 rfl (fun hC=>ix Z6.c 0 (m hC)) ?_;refine Gk 47 ?_;refine Gk 48 ?_;refine Gk 49 ?_;refine Y3 ?_;obtain⟨p,q,b⟩:=gO b;refine dP 53 rfl rfl rfl rfl rfl (fun hC=>XS (q hC)) ?_;refine bI 54 rfl (fun hC=>field (TK rfl) rfl rfl (TK rfl) rfl rfl rfl) ?_
 refine bI 55 rfl (fun hC=>dG ah.c p.aj) ?_;refine Gk 56 ?_;refine Y3 ?_;exact rt b
def ug (f:(Sl Bs)):List Bs->Nat->Option (Unit ⊕ Bool)
 | [],b=>some (Sum.inl ())
 | g::j,b=>on (g) fun k=>(f.l[b]?).bind fun m=>bif (!(k==m)) then(some (Sum.inr false)) else(ug f (j) (b+1) )
def z6 (a0:(Sl Bs)) (b:(Sl Bs)):Option Bool:=bif (!decide (((a0.l.length:Nat):Int)=((b.l.length:Nat):Int))) then(some false) else(Option.bind (ug b a0.l 0 ) fun f=>match f with|Sum.inl _=>(on (()) fun _=>some true)|Sum.inr g=>(some g))
theorem XT {a0 f w0 p r}(b:z6 a0 f=some r) (H:af) :At 50 [.d (Sl.d 1 aG w0 a0),.d (Sl.d 1 aG p f)] H (RT (.a (.d (.bool r))) H):=by
 unfold z6 at b;refine AC.oW 26 [.tmp 4] Tryz.call50 Tryz.func50 ?_;refine Y3 ?_;refine ar fun G q=>Y2 ?_;refine aU aG a0 fun I=>Y1 ?_;refine aU aG f fun J=>Y2 ?_;refine cE b (fun s b=>?_) (fun s b=>?_)
 ·refine Y3 ?_;exact rt b
 refine sk q (aO kN (fun(z:Unit)=>[]) (fun z=>H) (fun z=>(some true)=some r) ?_ ?_)
 ·intro K t;refine Y4 ?_;obtain⟨j,k,b⟩:=bZ b;refine bz (tl [0,1]) (fun(z:Nat)=>[(5,vi z)]) (fun z=>H) (fun z=>a0.l.length-z) (fun z=>Option.bind (ug f (a0.l.drop z) z ) j=some r) 0 b wA ?_;rintro g b L u;refine ar fun M v=>Y3 ?_;refine aU aG a0 fun N=>Y2 ?_
  refine ag.bJ (fun l=>Option.bind (ug f l g ) j=some r) b rfl (fun O m w b=>?_) (fun w b=>?_)
  ·rw [ug] at b;refine sk v (ar fun P y=>Y4 ?_);obtain⟨Q,B,b⟩:=vO m b;refine Sd (ix aG g B) (Y3 ?_);obtain⟨R,C,b⟩:=aJ b;refine Sd (ix aG g C) (Y3 ?_);refine cO b (fun E b=>?_) (fun E b=>?_)
   ·refine Y3 ?_;exact rs (ku k b:)
   refine sk y (Y5 ?_);exact u _ (g+1) wA b (dl m)
  rw [ug] at b;have b:=ku k b;refine ag.exit ?_;obtain⟨S,F,b⟩:=bW b;exact t _ () wA (ku F b:)
 rintro _ b;refine Y3 ?_;exact rt b
def Cz (a0:Int) (b:Int):Int:=bif (decide (a0<b)) then((-1:Int)) else(bif (decide (b<a0)) then((1:Int)) else((0:Int)))
def vw (a0:Int) (b:Int):Option Int:=some (Cz a0 b)
theorem UW (a0:Int) (a1:Int):vw a0 a1=some (Cz a0 a1):=rfl
theorem GL {a0 f r}(b:vw a0 f=some r) (H:af) :At 169 [.d (.int .i64 a0),.d (.int .i64 f)] H (RT (.a (.d (.int .i64 r))) H):=by
 unfold vw Cz at b;refine AC.oW 11 [.tmp 4] Tryz.call169 Tryz.func169 ?_;refine Y3 ?_;refine ar fun m g=>Y5 ?_;refine cP b (fun j b=>?_) (fun j b=>?_)
 ·refine Y3 ?_;exact rt b
 refine sk g (ar fun p k=>Y5 ?_);refine cP b (fun l b=>?_) (fun l b=>?_)
 ·refine Y3 ?_;exact rt b
 refine sk k (Y3 ?_);exact rt b
def CA (a0:Bs) (b:Bs):Int:=bif (Op.bytesLess a0 b) then((-1:Int)) else(bif (!(Op.bytesLess a0 b||a0==b)) then((1:Int)) else((0:Int)))
def xD (a0:Bs) (b:Bs):Option Int:=some (CA a0 b)
theorem UX (a0:Bs) (a1:Bs):xD a0 a1=some (CA a0 a1):=rfl
theorem NN {a0 f r}(b:xD a0 f=some r) (H:af) :At 170 [.d (.str a0),.d (.str f)] H (RT (.a (.d (.int .i64 r))) H):=by
 unfold xD CA at b;refine AC.oW 11 [.tmp 4] Tryz.call170 Tryz.func170 ?_;refine Y3 ?_;refine ar fun m g=>Y5 ?_;refine cP b (fun j b=>?_) (fun j b=>?_)
 ·refine Y3 ?_;exact rt b
 refine sk g (ar fun p k=>Y5 ?_);refine cP b (fun l b=>?_) (fun l b=>?_)
 ·refine Y3 ?_;exact rt b
 refine sk k (Y3 ?_);exact rt b
def zX (a0:Z9) (b:Int):Option Bs:=bif (decide (b<((a0.aR.l.length:Nat):Int))) then((c_ a0.aR.l b).bind fun x7=>some x7) else(some ([]:Bs))
def rG (a0:Z9) (b:Int):Option Bs:=zX a0 b
theorem FL (a0:Z9) (a1:Int):rG a0 a1=zX a0 a1:=rfl
theorem NO {a0 g r}(b:rG a0 g=some r) (H:af) :At 171 [.agg (Z9.c a0),.d (.int .i64 g)] H (RT (.a (.d (.str r))) H):=by
 unfold rG zX at b;refine AC.oW 15 [.tmp 4] Tryz.call171 Tryz.func171 ?_;refine Y4 ?_;refine ar fun m j=>Y4 ?_;refine aU aG a0.aR fun p=>Y2 ?_;refine cE b (fun k b=>?_) (fun k b=>?_)
 ·refine Y4 ?_;obtain⟨x7,l,b⟩:=aX b;refine s0 (iV (f:=aG) (TK rfl) rfl (TK rfl) rfl rfl rfl l) rfl ?_;refine Y3 ?_;exact rt b
 refine sk j (Y3 ?_);exact rt b
def GM  (b:Int):Option Int:=some b
def zY (b:Int) (f:Int->Int->Option Int) (g:Int):Option Int:=(cN b (1:Int)).bind fun j=>f g j
def uc (a0:Z9) (f:Z9) (g:Z9->Z9->Option Int):Nat->Int->Int->Option Int
 | 0,_,_=>none
 | j+1,k,b=>bif (decide (k=(0:Int))) then(bif ((decide (((a0.aB.l.length:Nat):Int)<=b))||(decide (((f.aB.l.length:Nat):Int)<=b))) then((vw ((a0.aB.l.length:Nat):Int) ((f.aB.l.length:Nat):Int)).bind fun p=>some p) else((rG a0 b).bind fun q=>(rG f b).bind fun r=>(xD q r).bind fun m=>bif (decide (m=(0:Int))) then((c_ a0.aB.l b).bind fun s=>(c_ f.aB.l b).bind fun t=>(g s t).bind fun u=>zY b ((uc a0 f g j)) u) else(zY b ((uc a0 f g j)) m))) else(GM   k)
def z1 (a0:Z9) (g:Z9) (b:Z9->Z9->Option Int) (f:Int):Option Int:=uc a0 g b F0 f (0:Int)
def zZ (a0:Z9) (b:Z9) (f:Z9->Z9->Option Int) (g:Int):Option Int:=bif (decide (g=(0:Int))) then((xD a0.bp b.bp).bind fun j=>z1 a0 b f j) else(z1 a0 b f g)
def nw:Nat->Z9->Z9->Option Int
 | 0,_,_=>none
 | n+1,a0,b=>(vw a0.ai b.ai).bind fun x3=>bif (decide (x3=(0:Int))) then((vw a0.bA b.bA).bind fun f=>zZ a0 b (nw n) f) else(zZ a0 b (nw n) x3)
def GN (n:Nat):Prop:=∀{a0:Z9}{a1:Z9}   {r:Int},nw n a0 a1=some r->∀(H:af),At 136 [.agg (Z9.c a0),.agg (Z9.c a1)] H (RT (.a (.d (.int .i64 r))) H)
theorem XU (n:Nat) (p:GN (au:=au) n):GN (au:=au) (n+1):=by
 intro a0 g   r b H;rw [nw] at b;refine AC.oW 70 [.tmp 4] Tryz.call136 Tryz.func136 ?_;refine pq ?_;obtain⟨x3,q,b⟩:=bO b;refine Sc rfl rfl (GL q) (Y2 ?_);refine aO (tl [2,3]) (fun(z:Int)=>[(5,.a (.d (.int .i64 z)))]) (fun z=>H) (fun z=>zZ a0 g (nw n) z=some r) ?_ ?_
 ·intro ae k;refine Y4 ?_;refine cE b (fun s b=>?_) (fun s b=>?_)
  ·refine Y5 ?_;obtain⟨t,u,b⟩:=bO b;refine Sc rfl rfl (GL u) (Y2 ?_);exact k _ t wA b
  refine ag.skip ?_;exact k _ x3 wA b
 rintro v b;unfold zZ at b;refine aO (tl [2,3]) (fun(z:Int)=>[(5,.a (.d (.int .i64 z)))]) (fun z=>H) (fun z=>z1 a0 g (nw n) z=some r) ?_ ?_
 ·intro ah l;refine Y4 ?_;refine cE b (fun w b=>?_) (fun w b=>?_)
  ·refine Y5 ?_;obtain⟨y,B,b⟩:=bO b;refine Sc rfl rfl (NN B) (Y2 ?_);exact l _ y wA b
  refine ag.skip ?_;exact l _ v wA b
 rintro C b;unfold z1 at b;refine aO kN (fun(z:Int)=>[(5,.a (.d (.int .i64 z)))]) (fun z=>H) (fun z=>GM z=some r) ?_ ?_
 ·intro ai E;refine Y4 ?_;refine bz (tl [2,3]) (fun(z:Nat×Int×Int)=>[(5,.a (.d (.int .i64 z.2.1))),(6,.a (.d (.int .i64 z.2.2)))]) (fun z=>H) (fun z=>z.1) (fun z=>uc a0 g (nw n) z.1 z.2.1 z.2.2=some r) (F0,C,(0:Int)) b wA ?_;rintro ⟨j,F,G⟩ b aj I;cases j with
  | zero=>cases b
  | succ j =>
    rw [uc] at b;refine ar fun ak J=>Y4 ?_;refine cE b (fun K b=>?_) (fun K b=>?_)
    ·refine sk J (aO (tl [2,3,6]) (fun(z:Int)=>[(5,.a (.d (.int .i64 z)))]) (fun z=>H) (fun z=>zY G ((uc a0 g (nw n) j)) z=some r) ?_ ?_)
     ·intro al m;refine Y1 ?_;refine ar fun am L=>Y3 ?_;refine s0 (dK (TK rfl) rfl rfl (Z9.ej _)) rfl ?_;refine aU Z9.c a0.aB fun ao=>Y4 ?_;refine bI 37 rfl (fun hC=>dK (TK rfl) rfl rfl (Z9.ej _)) ?_;refine bI 38 rfl (fun hC=>dG Z9.c g.aB) ?_;refine G2 36 39 rfl rfl BI ?_;refine Y2 ?_
      refine cE b (fun M b=>?_) (fun M b=>?_)
      ·refine Y2 ?_;refine s0 (dK (TK rfl) rfl rfl (Z9.ej _)) rfl ?_;refine aU Z9.c a0.aB fun ap=>Y1 ?_;refine s0 (dK (TK rfl) rfl rfl (Z9.ej _)) rfl ?_;refine aU Z9.c g.aB fun aq=>?_;obtain⟨av,N,b⟩:=bO b;refine Sc rfl rfl (GL N) (Y2 ?_);exact rt b
      refine sk L (Y3 ?_);obtain⟨aw,O,b⟩:=bO b;refine cF rfl rfl (NO O) (Y2 ?_);obtain⟨ax,P,b⟩:=bO b;refine cF rfl rfl (NO P) ?_;obtain⟨Q,R,b⟩:=bO b;refine cF rfl rfl (NN R) (Y6 ?_);refine cE b (fun U b=>?_) (fun U b=>?_)
      ·refine ag.draw rfl ?_;refine Y1 ?_;refine aN.s0 (dK (TK rfl) rfl rfl (Z9.ej _)) rfl ?_;refine Y1 ?_;obtain⟨ay,W,b⟩:=bO b;refine aN.s0 (iV (f:=Z9.c) (TK rfl) rfl (TK rfl) rfl rfl rfl W) rfl ?_;refine Y2 ?_;refine aN.s0 (dK (TK rfl) rfl rfl (Z9.ej _)) rfl ?_;refine Y1 ?_;obtain⟨aA,X,b⟩:=bO b
       refine aN.s0 (iV (f:=Z9.c) (TK rfl) rfl (TK rfl) rfl rfl rfl X) rfl ?_;refine Y1 ?_;obtain⟨Y,Z,b⟩:=bO b;refine cF rfl rfl (p Z) (Y2 ?_);exact m _ Y wA b
      refine ag.skip ?_;exact m _ Q wA b
     rintro aa b;unfold zY at b;refine Y2 ?_;obtain⟨ab,ad,b⟩:=bO b;refine S (fp ad) (Y2 ?_);exact I _ (j,aa,ab) wA b (nS _)
    refine ag.exit ?_;exact E _ F wA b
 rintro aC b;unfold GM at b;refine Y4 ?_;exact rt b
theorem NP:∀(n:Nat),(GN (au:=au) n)
 | 0=>fun b=>by first|cases b|(rw [nw] at b; cases b)
 | n+1=>XU n (NP n)
def FM (a0:Z9) (b:Z9):Option Int:=nw F0 a0 b
theorem XV {a0 b r}(f:FM a0 b=some r) (H:af) :At 136 [.agg (Z9.c a0),.agg (Z9.c b)] H (RT (.a (.d (.int .i64 r))) H):=(NP F0) f H 
def xE (a0:Z9) (b:Z9):Option Bool:=(FM a0 b).bind fun x3=>some (decide (x3=(0:Int)))
def GO (a0:Z9) (b:Z9):Option Bool:=xE a0 b
theorem NQ {a0 f r}(b:GO a0 f=some r) (H:af) :At 93 [.agg (Z9.c a0),.agg (Z9.c f)] H (RT (.a (.d (.bool r))) H):=by
 unfold GO xE at b;refine AC.oW 9 [.tmp 4] Tryz.call93 Tryz.func93 ?_;refine Y8 ?_;obtain⟨x3,g,b⟩:=aX b;refine Sc rfl rfl (XV g) (Y3 ?_);exact rt b
def ym  :Option Bool:=some true
def yo (b:Nat) (f:Nat->Option Bool) :Option Bool:=f (b+1)
def yp (a0:(Sl aA)) (k:(Sl aA)) (b:Nat) (m:Nat->Option Bool):Nat->Nat->Option Bool
 | 0,_=>none
 | p+1,f=>(a0.l[b]?).bind fun q=>bif (decide (((f:Nat):Int)<((q.ay.l.length:Nat):Int))) then((a0.l[b]?).bind fun r=>(r.ay.l[f]?).bind fun g=>(k.l[b]?).bind fun s=>(s.ay.l[f]?).bind fun j=>aZ (!(!(g.aa==j.aa))) (a0.l[b]?) aA.zero fun t=>aZ (!(!(g.aa==j.aa))) (t.ay.l[f]?) bT.zero fun u=>aZ (!(!(g.aa==j.aa))) (k.l[b]?) aA.zero fun v=>aZ (!(!(g.aa==j.aa))) (v.ay.l[f]?) bT.zero fun w=>aZ (!(!(g.aa==j.aa))) (GO u.gr w.gr) false fun y=>bif ((!(g.aa==j.aa))||(!y)) then(some false) else((yp a0 k b m p) (f+1))) else(yo b m )
def rU (a0:(Sl aA)) (f:(Sl aA)) :Nat->Nat->Option Bool
 | 0,_=>none
 | k+1,b=>bif (decide (((b:Nat):Int)<((a0.l.length:Nat):Int))) then((a0.l[b]?).bind fun g=>(f.l[b]?).bind fun j=>aZ (!(!(g.aa==j.aa))) (a0.l[b]?) aA.zero fun m=>aZ (!(!(g.aa==j.aa))) (f.l[b]?) aA.zero fun p=>bif ((!(g.aa==j.aa))||(!decide (((m.ay.l.length:Nat):Int)=((p.ay.l.length:Nat):Int)))) then(some false) else(yp a0 f b ((rU a0 f k)) (Option.elim (a0.l[b]?) 1 (fun q=>q.ay.l.length+1)) 0)) else(ym   )
def C3 (a0:(Sl aA)) (b:(Sl aA)):Option Bool:=bif (!decide (((a0.l.length:Nat):Int)=((b.l.length:Nat):Int))) then(some false) else(rU a0 b (a0.l.length+1) 0)
theorem C4 {a0 g w0 q r}(b:C3 a0 g=some r) (H:af) :At 51 [.d (Sl.d 2 aA.c w0 a0),.d (Sl.d 2 aA.c q g)] H (RT (.a (.d (.bool r))) H):=by
 unfold C3 at b;refine AC.oW 95 [.tmp 4] Tryz.call51 Tryz.func51 ?_;refine Y3 ?_;refine ar fun ah s=>Y2 ?_;refine aU aA.c a0 fun ai=>Y1 ?_;refine aU aA.c g fun aj=>Y2 ?_;refine cE b (fun t b=>?_) (fun t b=>?_)
 ·refine Y3 ?_;exact rt b
 refine sk s (aO kN (fun(z:Unit)=>[]) (fun z=>H) (fun z=>ym =some r) ?_ ?_)
 ·intro ak u;refine Y4 ?_;refine bz (tl [0,1]) (fun(z:Nat×Nat)=>[(5,vi z.2)]) (fun z=>H) (fun z=>z.1) (fun z=>rU a0 g z.1 z.2=some r) ((a0.l.length+1),0) b wA ?_;rintro ⟨j,f⟩ b al v;cases j with
  | zero=>cases b
  | succ j =>
    rw [rU] at b;refine ar fun am w=>Y3 ?_;refine aU aA.c a0 fun ao=>Y2 ?_;refine cE b (fun y b=>?_) (fun y b=>?_)
    ·refine sk w (aO (tl [0,1,5]) (fun(z:Unit)=>[]) (fun z=>H) (fun z=>yo f ((rU a0 g j)) =some r) ?_ ?_)
     ·intro ap B;refine Y1 ?_;refine ar fun aq C=>Y3 ?_;obtain⟨au,E,b⟩:=bO b;refine Sd (ix aA.c f E) (Y4 ?_);obtain⟨av,F,b⟩:=bO b;refine Sd (ix aA.c f F) (Y6 ?_);obtain⟨G,I,b⟩:=gO b;refine gq 30 31 rfl rfl (fun hC=>ix aA.c f (I hC)) ?_;refine cm 32 ?_;refine cm 33 ?_;refine j9 34 rfl (fun hC=>dG bT.c G.ay) ?_;refine Y2 ?_;obtain⟨J,K,b⟩:=gO b
      refine gq 36 37 rfl rfl (fun hC=>ix aA.c f (K hC)) ?_;refine cm 38 ?_;refine cm 39 ?_;refine j9 40 rfl (fun hC=>dG bT.c J.ay) ?_;refine qx 35 41 rfl rfl BI ?_;refine Y2 ?_;refine cE b (fun L b=>?_) (fun L b=>?_)
      ·refine Y3 ?_;exact rt b
      refine sk C (Y4 ?_);refine bz (tl [0,1,5]) (fun(z:Nat×Nat)=>[(6,vi z.2)]) (fun z=>H) (fun z=>z.1) (fun z=>yp a0 g f ((rU a0 g j)) z.1 z.2=some r) ((Option.elim (a0.l[f]?) 1 (fun m=>m.ay.l.length+1)),0) b wA ?_;rintro ⟨p,k⟩ b aw M;cases p with
      | zero=>cases b
      | succ p =>
        rw [yp] at b;refine ar fun ax N=>Y4 ?_;obtain⟨m,O,b⟩:=bO b;refine S (ix aA.c f O) (Y2 ?_);refine aU bT.c m.ay fun aB=>Y2 ?_;refine cE b (fun P b=>?_) (fun P b=>?_)
        ·refine sk N (ar fun aC Q=>Y4 ?_);obtain⟨aD,R,b⟩:=bO b;refine Sd (ix aA.c f R) (Y3 ?_);obtain⟨aE,U,b⟩:=bO b;refine Sd (ix bT.c k U) (Y4 ?_);obtain⟨aF,W,b⟩:=bO b;refine Sd (ix aA.c f W) (Y3 ?_);obtain⟨aG,X,b⟩:=bO b;refine Sd (ix bT.c k X) (Y6 ?_);obtain⟨aH,Y,b⟩:=gO b;refine gq 74 75 rfl rfl (fun hC=>ix aA.c f (Y hC)) ?_
         refine cm 76 ?_;refine cm 77 ?_;refine Y1 ?_;obtain⟨aI,Z,b⟩:=gO b;refine gq 78 79 rfl rfl (fun hC=>ix bT.c k (Z hC)) ?_;refine cm 80 ?_;refine cm 81 ?_;refine Y2 ?_;obtain⟨aJ,aa,b⟩:=gO b;refine gq 83 84 rfl rfl (fun hC=>ix aA.c f (aa hC)) ?_;refine cm 85 ?_;refine cm 86 ?_;refine Y1 ?_;obtain⟨aL,ab,b⟩:=gO b;refine gq 87 88 rfl rfl (fun hC=>ix bT.c k (ab hC)) ?_
         refine cm 89 ?_;refine cm 90 ?_;obtain⟨aM,ad,b⟩:=gO b;refine sD 82 91 rfl rfl rfl rfl rfl rfl (fun hC=>NQ (ad hC)) ?_;refine cm 92 ?_;refine Y2 ?_;refine cE b (fun ae b=>?_) (fun ae b=>?_)
         ·refine Y3 ?_;exact rt b
         refine sk Q (Y5 ?_);exact M _ (p,(k+1)) wA b (nS _)
        refine ag.exit ?_;exact B _ () wA b
     rintro _ b;unfold yo at b;refine Y5 ?_;exact v _ (j,(f+1)) wA b (nS _)
    refine ag.exit ?_;exact u _ () wA b
 rintro _ b;unfold ym at b;refine Y3 ?_;exact rt b
def vA (m:(Sl aA)) (j:Nat) (k:aA):List bT->Nat->Option (Unit ⊕ Bool)
 | [],g=>some (Sum.inl ())
 | p::q,g=>on (k) fun y=>on (p) fun b=>(m.l[j]?).bind fun r=>(r.ay.l[g]?).bind fun f=>on (bif !(!(b.aa==f.aa)) then k else aA.zero) fun s=>aZ (!(!(b.aa==f.aa))) (s.ay.l[g]?) bT.zero fun t=>aZ (!(!(b.aa==f.aa))) (m.l[j]?) aA.zero fun u=>aZ (!(!(b.aa==f.aa))) (u.ay.l[g]?) bT.zero fun v=>aZ (!(!(b.aa==f.aa))) (xE t.gr v.gr) false fun w=>bif ((!(b.aa==f.aa))||(!w)) then(some (Sum.inr false)) else(vA m j k (q) (g+1) )
theorem XW {a0 s:Sl aA}{j:Nat}{q:Nat->Option Bool}{k:aA}(m:a0.l[j]?=some k) (p:(Unit ⊕ Bool)->Option Bool) (t:∀(f:Nat) (b:Nat),yo j q =p (Sum.inl ())) (u:∀e:Bool,some e=p (Sum.inr e)):∀(f:Nat) (b:Nat),(0<f/\k.ay.l.length<b+f)->yp a0 s j q f b=Option.bind (vA s j k (k.ay.l.drop b) b ) p:=by
 intro f;induction f with
 | zero=>intro b hn; exact absurd hn.1 (by omega)
 | succ f v =>
  intro b hn;rw [yp];refine Q.preB m fun w y=>?_;subst y;by_cases bn:b<w.ay.l.length
  ·obtain⟨z,g⟩:=Qa bn;rw [Q.mz g,vA];refine QT bn ?_;refine Q.lP m fun B r=>?_;refine Q.lP (by first|exact g|(simp only [r]; exact g)|(simp only [r] at g ⊢; exact g)) fun C E=>?_;refine Q.kK rfl fun F=>?_;refine Q.kK rfl fun G=>?_;refine Q.D1 m fun H I=>?_;refine Q.uM rfl fun J=>?_;refine Q.uM rfl fun K=>?_
   refine Q.uM rfl fun L=>?_;refine Q.uM rfl fun M=>?_;refine Q.qw ?_ ?_
   ·all_goals exact u _
   all_goals exact v _ ⟨by omega,by omega⟩
  rw [dL (by omega),vA];refine QF bn ?_;exact t f b
def vB (g:(Sl aA)):List aA->Nat->Option (Unit ⊕ Bool)
 | [],b=>some (Sum.inl ())
 | f::m,b=>on (f) fun j=>(g.l[b]?).bind fun k=>on (bif !(!(j.aa==k.aa)) then f else aA.zero) fun p=>aZ (!(!(j.aa==k.aa))) (g.l[b]?) aA.zero fun q=>bif ((!(j.aa==k.aa))||(!decide (((p.ay.l.length:Nat):Int)=((q.ay.l.length:Nat):Int)))) then(some (Sum.inr false)) else(Option.bind (vA g b f f.ay.l 0 ) fun r=>match r with|Sum.inl _=>(on (()) fun _=>vB g (m) (b+1) )|Sum.inr s=>(some (Sum.inr s)))
theorem XX {a0 k:Sl aA}(j:(Unit ⊕ Bool)->Option Bool) (q:∀(f:Nat) (b:Nat),ym   =j (Sum.inl ())) (m:∀e:Bool,some e=j (Sum.inr e)):∀(f:Nat) (b:Nat),(0<f/\a0.l.length<b+f)->rU a0 k f b=Option.bind (vB k (a0.l.drop b) b ) j:=by
 intro f;induction f with
 | zero=>intro b hn; exact absurd hn.1 (by omega)
 | succ f r =>
  intro b hn;rw [rU];by_cases bn:b<a0.l.length
  ·obtain⟨w,g⟩:=Qa bn;rw [Q.mz g,vB];refine QT bn ?_;refine Q.lP g fun y z=>?_;refine Q.kK rfl fun B=>?_;refine Q.D1 g fun C E=>?_;refine Q.uM rfl fun F=>?_;refine Q.qw ?_ ?_
   ·all_goals exact m _
   refine Q.uO fun s p=>?_;refine XW g s ?_ ?_ _ _ ⟨by rw [g]; exact Nat.succ_pos _,by rw [g]; simp only [Option.elim]; omega⟩
   ·intro G H;refine Qe (p _) ?_;try dsimp only
    refine Q.uN fun t u=>?_;have v:yo b (rU a0 k f) =t ():=by
     refine Qe (u _) ?_;unfold yo;all_goals exact r _ ⟨by omega,by omega⟩
    all_goals exact v
   intro I;refine Qe (p _) ?_;try dsimp only
   all_goals exact m _
  rw [dL (by omega),vB];refine QF bn ?_;exact q f b
def ud (a0:(Sl aA)) (b:(Sl aA)):Option Bool:=bif (!decide (((a0.l.length:Nat):Int)=((b.l.length:Nat):Int))) then(some false) else(Option.bind (vB b a0.l 0 ) fun f=>match f with|Sum.inl _=>(on (()) fun _=>some true)|Sum.inr g=>(some g))
theorem C5 (a0:(Sl aA)) (a1:(Sl aA)):C3 a0 a1=ud a0 a1:=by
 unfold C3 ud;refine Qs ?_;refine Q.qw ?_ ?_
 ·all_goals rfl
 refine Q.uO fun f b=>?_;refine XX  f ?_ ?_ _ _ ⟨Nat.succ_pos _,by omega⟩
 ·intro l m;refine Qe (b _) ?_;try dsimp only
  refine Q.uN fun g j=>?_;have k:ym  =g ():=by
   refine Qe (j _) ?_;unfold ym;all_goals rfl
  all_goals exact k
 intro p;refine Qe (b _) ?_;try dsimp only
 all_goals rfl
def ue (m:(Sl Z7)):List Z7->Nat->Option (Unit ⊕ Bool)
 | [],g=>some (Sum.inl ())
 | p::q,g=>on (p) fun b=>(m.l[g]?).bind fun f=>aZ (!(!(b.aa==f.aa))) (qI b.av f.av) false fun j=>aZ (!(((!(b.aa==f.aa))||(!j))||(!(b.ck==f.ck)))) (xE b.cR f.cR) false fun k=>aZ (!((((!(b.aa==f.aa))||(!j))||(!(b.ck==f.ck)))||(!k))) (ud b.bf f.bf) false fun r=>bif (((((!(b.aa==f.aa))||(!j))||(!(b.ck==f.ck)))||(!k))||(!r)) then(some (Sum.inr false)) else(ue m (q) (g+1) )
def uf (a0:(Sl Z7)) (b:(Sl Z7)):Option Bool:=bif (!decide (((a0.l.length:Nat):Int)=((b.l.length:Nat):Int))) then(some false) else(Option.bind (ue b a0.l 0 ) fun f=>match f with|Sum.inl _=>(on (()) fun _=>some true)|Sum.inr g=>(some g))
theorem NR {a0 f w0 p r}(b:uf a0 f=some r) (H:af) :At 53 [.d (Sl.d 10 Z7.c w0 a0),.d (Sl.d 10 Z7.c p f)] H (RT (.a (.d (.bool r))) H):=by
 unfold uf at b;refine AC.oW 63 [.tmp 4] Tryz.call53 Tryz.func53 ?_;refine Y3 ?_;refine ar fun K q=>Y2 ?_;refine aU Z7.c a0 fun L=>Y1 ?_;refine aU Z7.c f fun M=>Y2 ?_;refine cE b (fun s b=>?_) (fun s b=>?_)
 ·refine Y3 ?_;exact rt b
 refine sk q (aO kN (fun(z:Unit)=>[]) (fun z=>H) (fun z=>(some true)=some r) ?_ ?_)
 ·intro N t;refine Y4 ?_;obtain⟨j,k,b⟩:=bZ b;refine bz (tl [0,1]) (fun(z:Nat)=>[(5,vi z)]) (fun z=>H) (fun z=>a0.l.length-z) (fun z=>Option.bind (ue f (a0.l.drop z) z ) j=some r) 0 b wA ?_;rintro g b O u;refine ar fun P v=>Y3 ?_;refine aU Z7.c a0 fun Q=>Y2 ?_
  refine ag.bJ (fun l=>Option.bind (ue f l g ) j=some r) b rfl (fun R m w b=>?_) (fun w b=>?_)
  ·rw [ue] at b;refine sk v (ar fun S y=>Y4 ?_);obtain⟨U,B,b⟩:=vO m b;refine Sd (ix Z7.c g B) (Y3 ?_);obtain⟨W,C,b⟩:=aJ b;refine Sd (ix Z7.c g C) (Y6 ?_);refine bC 7 _ rfl (kl [0,1,5,6]) ?_;refine bC 6 _ rfl (kl [0,1,5,7]) ?_;refine Y8 ?_;refine Gk 33 ?_;refine Y1 ?_;refine Gk 35 ?_;obtain⟨X,E,b⟩:=fz b
   refine fS 34 36 rfl rfl rfl rfl rfl rfl (fun hC=>Ei (E hC)) ?_;refine Gk 37 ?_;refine Y3 ?_;refine Gk 41 ?_;refine Y1 ?_;refine Gk 43 ?_;refine fJ 42 44 rfl rfl (fun hC=>Ou (TK rfl) rfl rfl rfl) ?_;refine Y3 ?_;refine Gk 48 ?_;refine Y1 ?_;refine Gk 50 ?_;obtain⟨Y,F,b⟩:=fz b;refine fS 49 51 rfl rfl rfl rfl rfl rfl (fun hC=>NQ (F hC)) ?_;refine Gk 52 ?_;refine Y3 ?_;refine Gk 56 ?_
   refine Y1 ?_;refine Gk 58 ?_;obtain⟨Z,G,b⟩:=uQ (C5 _ _) b;refine fS 57 59 rfl rfl rfl rfl rfl rfl (fun hC=>C4 (G hC)) ?_;refine Gk 60 ?_;refine Y2 ?_;refine cO b (fun I b=>?_) (fun I b=>?_)
   ·refine Y3 ?_;exact rs (ku k b:)
   refine sk y (Y5 ?_);exact u _ (g+1) wA b (dl m)
  rw [ue] at b;have b:=ku k b;refine ag.exit ?_;obtain⟨aa,J,b⟩:=bW b;exact t _ () wA (ku J b:)
 rintro _ b;refine Y3 ?_;exact rt b
def uh (m:ah):List Z6->Nat->Option (Unit ⊕ Bool)
 | [],g=>some (Sum.inl ())
 | p::q,g=>on (p) fun b=>(m.aq.l[g]?).bind fun f=>aZ (!(!(b.aa==f.aa))) (qI b.av f.av) false fun j=>aZ (!((!(b.aa==f.aa))||(!j))) (ud b.bf f.bf) false fun k=>aZ (!(((!(b.aa==f.aa))||(!j))||(!k))) (uf b.ay f.ay) false fun r=>bif ((((!(b.aa==f.aa))||(!j))||(!k))||(!r)) then(some (Sum.inr false)) else(uh m (q) (g+1) )
def rH (j:ah):List Z8->Nat->Option (Unit ⊕ Bool)
 | [],b=>some (Sum.inl ())
 | k::m,b=>on (k) fun f=>(j.ax.l[b]?).bind fun g=>on (bif !(!(f.aa==g.aa)) then k else Z8.zero) fun p=>aZ (!(!(f.aa==g.aa))) (j.ax.l[b]?) Z8.zero fun q=>aZ (!(!(f.aa==g.aa))) (ud p.bf q.bf) false fun r=>bif ((!(f.aa==g.aa))||(!r)) then(some (Sum.inr false)) else(rH j (m) (b+1) )
def z8 (a0:ah) (b:ah):Option Bool:=aZ (!((!decide (a0.ai=b.ai))||(!(a0.aa==b.aa)))) (z6 a0.aM b.aM) false fun f=>aZ (!(((!decide (a0.ai=b.ai))||(!(a0.aa==b.aa)))||(!f))) (ud a0.bf b.bf) false fun x5=>bif ((((((!decide (a0.ai=b.ai))||(!(a0.aa==b.aa)))||(!f))||(!x5))||(!decide (((a0.aq.l.length:Nat):Int)=((b.aq.l.length:Nat):Int))))||(!decide (((a0.ax.l.length:Nat):Int)=((b.ax.l.length:Nat):Int)))) then(some false) else(Option.bind (uh b a0.aq.l 0 ) fun g=>match g with|Sum.inl _=>(on (()) fun _=>Option.bind (rH b a0.ax.l 0 ) fun j=>match j with|Sum.inl _=>(on (()) fun _=>(uf a0.aF b.aF).bind fun k=>some k)|Sum.inr m=>(some m))|Sum.inr p=>(some p))
theorem XY {a0 f r}(b:z8 a0 f=some r) (H:af) :At 24 [.agg (ah.c a0),.agg (ah.c f)] H (RT (.a (.d (.bool r))) H):=by
 unfold z8 at b;refine AC.oW 142 [.tmp 4] Tryz.call24 Tryz.func24 ?_;refine Y5 ?_;refine ar fun al v=>Y8 ?_;refine Gk 15 ?_;refine Y1 ?_;refine Gk 17 ?_;refine G2 16 18 rfl rfl BS ?_;refine Y3 ?_;refine Gk 22 ?_;refine Y1 ?_;refine Gk 24 ?_;obtain⟨am,w,b⟩:=eB b;refine fS 23 25 rfl rfl rfl rfl rfl rfl (fun hC=>XT (w hC)) ?_;refine Gk 26 ?_;refine Y3 ?_;refine Gk 30 ?_;refine Y1 ?_
 refine Gk 32 ?_;obtain⟨x5,y,b⟩:=D2 (C5 _ _) b;refine fS 31 33 rfl rfl rfl rfl rfl rfl (fun hC=>C4 (y hC)) ?_;refine Gk 34 ?_;refine Y3 ?_;refine Gk 38 ?_;refine bI 39 rfl (fun hC=>dG Z6.c a0.aq) ?_;refine Y1 ?_;refine Gk 41 ?_;refine bI 42 rfl (fun hC=>dG Z6.c f.aq) ?_;refine G2 40 43 rfl rfl BI ?_;refine Y3 ?_;refine Gk 47 ?_;refine bI 48 rfl (fun hC=>dG Z8.c a0.ax) ?_
 refine Y1 ?_;refine Gk 50 ?_;refine bI 51 rfl (fun hC=>dG Z8.c f.ax) ?_;refine G2 49 52 rfl rfl BI ?_;refine Y2 ?_;refine cE b (fun B b=>?_) (fun B b=>?_)
 ·refine Y3 ?_;exact rt b
 refine sk v (aO (tl [2,3]) (fun(z:Unit)=>[]) (fun z=>H) (fun z=>(Option.bind (rH f a0.ax.l 0 ) fun C=>match C with|Sum.inl _=>(on (()) fun _=>(uf a0.aF f.aF).bind fun j=>some j)|Sum.inr E=>(some E))=some r) ?_ ?_)
 ·intro ao F;refine Y4 ?_;obtain⟨p,q,b⟩:=bZ b;refine bz (tl [2,3]) (fun(z:Nat)=>[(5,vi z)]) (fun z=>H) (fun z=>a0.aq.l.length-z) (fun z=>Option.bind (uh f (a0.aq.l.drop z) z ) p=some r) 0 b wA ?_;rintro k b ap G;refine ar fun au I=>Y4 ?_;refine aU Z6.c a0.aq fun av=>Y2 ?_
  refine ag.bJ (fun l=>Option.bind (uh f l k ) p=some r) b rfl (fun aw s J b=>?_) (fun J b=>?_)
  ·rw [uh] at b;refine sk I (ar fun ay K=>Y5 ?_);obtain⟨aA,L,b⟩:=vO s b;refine Sd (ix Z6.c k L) (Y4 ?_);obtain⟨aB,M,b⟩:=aJ b;refine Sd (ix Z6.c k M) (Y6 ?_);refine bC 7 _ rfl (kl [2,3,5,6]) ?_;refine bC 6 _ rfl (kl [2,3,5,7]) ?_;refine Y8 ?_;refine Gk 78 ?_;refine Y1 ?_;refine Gk 80 ?_;obtain⟨aC,N,b⟩:=fz b
   refine fS 79 81 rfl rfl rfl rfl rfl rfl (fun hC=>Ei (N hC)) ?_;refine Gk 82 ?_;refine Y3 ?_;refine Gk 86 ?_;refine Y1 ?_;refine Gk 88 ?_;obtain⟨aD,O,b⟩:=uQ (C5 _ _) b;refine fS 87 89 rfl rfl rfl rfl rfl rfl (fun hC=>C4 (O hC)) ?_;refine Gk 90 ?_;refine Y3 ?_;refine Gk 94 ?_;refine Y1 ?_;refine Gk 96 ?_;obtain⟨aE,P,b⟩:=fz b
   refine fS 95 97 rfl rfl rfl rfl rfl rfl (fun hC=>NR (P hC)) ?_;refine Gk 98 ?_;refine Y2 ?_;refine cO b (fun Q b=>?_) (fun Q b=>?_)
   ·refine Y3 ?_;exact rs (ku q b:)
   refine sk K (Y5 ?_);exact G _ (k+1) wA b (dl s)
  rw [uh] at b;have b:=ku q b;refine ag.exit ?_;obtain⟨aG,R,b⟩:=bW b;exact F _ () wA (ku R b:)
 rintro _ b;refine aO (tl [2,3]) (fun(z:Unit)=>[]) (fun z=>H) (fun z=>((uf a0.aF f.aF).bind fun j=>some j)=some r) ?_ ?_
 ·intro aH S;refine Y4 ?_;obtain⟨t,u,b⟩:=bZ b;refine bz (tl [2,3]) (fun(z:Nat)=>[(8,vi z)]) (fun z=>H) (fun z=>a0.ax.l.length-z) (fun z=>Option.bind (rH f (a0.ax.l.drop z) z ) t=some r) 0 b wA ?_;rintro g b aI U;refine ar fun aL W=>Y4 ?_;refine aU Z8.c a0.ax fun aM=>Y2 ?_
  refine ag.bJ (fun l=>Option.bind (rH f l g ) t=some r) b rfl (fun aP m X b=>?_) (fun X b=>?_)
  ·rw [rH] at b;refine sk W (ar fun aR Y=>Y5 ?_);obtain⟨aS,Z,b⟩:=vO m b;refine Sd (ix Z8.c g Z) (Y5 ?_);obtain⟨aV,aa,b⟩:=aJ b;refine Sd (ix Z8.c g aa) (Y5 ?_);refine cm 122 ?_;refine Y1 ?_;obtain⟨aW,ab,b⟩:=ee (fun _=>m) b;refine gq 123 124 rfl rfl (fun hC=>ix Z8.c g (ab hC)) ?_;refine cm 125 ?_;refine cm 126 ?_;refine Y1 ?_;refine cm 128 ?_;refine Y1 ?_
   obtain⟨aY,ad,b⟩:=fz b;refine gq 129 130 rfl rfl (fun hC=>ix Z8.c g (ad hC)) ?_;refine cm 131 ?_;refine cm 132 ?_;obtain⟨aZ,ae,b⟩:=uQ (C5 _ _) b;refine sD 127 133 rfl rfl rfl rfl rfl rfl (fun hC=>C4 (ae hC)) ?_;refine cm 134 ?_;refine Y2 ?_;refine cO b (fun ai b=>?_) (fun ai b=>?_)
   ·refine Y3 ?_;exact rs (ku u b:)
   refine sk Y (Y5 ?_);exact U _ (g+1) wA b (dl m)
  rw [rH] at b;have b:=ku u b;refine ag.exit ?_;obtain⟨a1,aj,b⟩:=bW b;exact S _ () wA (ku aj b:)
 rintro _ b;refine Y5 ?_;obtain⟨j,ak,b⟩:=aX b;refine Sc rfl rfl (NR ak) (Y2 ?_);exact rt b
def uj (f:ak):List ah->Nat->Option (Unit ⊕ Bool)
 | [],b=>some (Sum.inl ())
 | g::j,b=>on (g) fun k=>(f.aj.l[b]?).bind fun m=>(z8 k m).bind fun p=>bif (!p) then(some (Sum.inr false)) else(uj f (j) (b+1) )
def wU (a0:ak) (b:ak):Option Bool:=bif (!decide (((a0.aj.l.length:Nat):Int)=((b.aj.l.length:Nat):Int))) then(some false) else(Option.bind (uj b a0.aj.l 0 ) fun f=>match f with|Sum.inl _=>(on (()) fun _=>some true)|Sum.inr g=>(some g))
theorem Ri {a0 f r}(b:wU a0 f=some r) (H:af) :At 9 [.agg (ak.c a0),.agg (ak.c f)] H (RT (.a (.d (.bool r))) H):=by
 unfold wU at b;refine AC.oW 32 [.tmp 4] Tryz.call9 Tryz.func9 ?_;refine Y5 ?_;refine ar fun G p=>Y3 ?_;refine aU ah.c a0.aj fun I=>Y2 ?_;refine aU ah.c f.aj fun J=>Y2 ?_;refine cE b (fun q b=>?_) (fun q b=>?_)
 ·refine Y3 ?_;exact rt b
 refine sk p (aO kN (fun(z:Unit)=>[]) (fun z=>H) (fun z=>(some true)=some r) ?_ ?_)
 ·intro K s;refine Y4 ?_;obtain⟨j,k,b⟩:=bZ b;refine bz (tl [2,3]) (fun(z:Nat)=>[(5,vi z)]) (fun z=>H) (fun z=>a0.aj.l.length-z) (fun z=>Option.bind (uj f (a0.aj.l.drop z) z ) j=some r) 0 b wA ?_;rintro g b L t;refine ar fun M u=>Y4 ?_;refine aU ah.c a0.aj fun N=>Y2 ?_
  refine ag.bJ (fun l=>Option.bind (uj f l g ) j=some r) b rfl (fun O m v b=>?_) (fun v b=>?_)
  ·rw [uj] at b;refine sk u (ar fun P w=>Y5 ?_);obtain⟨Q,y,b⟩:=vO m b;refine Sd (ix ah.c g y) (Y4 ?_);obtain⟨R,B,b⟩:=aJ b;refine Sd (ix ah.c g B) (Y1 ?_);obtain⟨S,C,b⟩:=aJ b;refine cF rfl rfl (XY C) (Y2 ?_);refine cO b (fun E b=>?_) (fun E b=>?_)
   ·refine Y3 ?_;exact rs (ku k b:)
   refine sk w (Y5 ?_);exact t _ (g+1) wA b (dl m)
  rw [uj] at b;have b:=ku k b;refine ag.exit ?_;obtain⟨U,F,b⟩:=bW b;exact s _ () wA (ku F b:)
 rintro _ b;refine Y3 ?_;exact rt b
def rI (g:Bs):List Bs->Nat->Bs->Option (Bs)
 | [],f,b=>some b
 | j::k,f,b=>Option.bind (bif (decide ((0:Int)<((f:Nat):Int))) then((a_ b g).bind fun l=>some l) else(some b)) fun m=>on (j) fun p=>(a_ m p).bind fun q=>on (q) fun r=>rI g (k) (f+1) r
def i_ (a0:(Sl Bs)) (g:Bs):Option Bs:=Option.bind (rI g a0.l 0 ([]:Bs)) fun b=>on (b) fun f=>some f
def Bq (a0:(Sl Bs)) (b:Bs):Option Bs:=i_ a0 b
theorem sK {a0 g w0 r}(b:Bq a0 g=some r) (H:af) :At 107 [.d (Sl.d 1 aG w0 a0),.d (.str g)] H (RT (.a (.d (.str r))) H):=by
 unfold Bq i_ at b;refine AC.oW 25 [.tmp 4] Tryz.call107 Tryz.func107 ?_;refine Y6 ?_;refine aO kN (fun(z:Bs)=>[(5,.a (.d (.str z)))]) (fun z=>H) (fun z=>(some z)=some r) ?_ ?_
 ·intro N q;refine Y4 ?_;obtain⟨j,s,b⟩:=bZ b;refine bz (tl [0,1]) (fun(z:Bs×Nat)=>[(5,.a (.d (.str z.1))),(6,vi z.2)]) (fun z=>H) (fun z=>a0.l.length-z.2) (fun z=>Option.bind (rI g (a0.l.drop z.2) z.2 z.1) j=some r) (([]:Bs),0) b wA ?_;rintro ⟨k,f⟩ b O t;refine ar fun P u=>Y3 ?_;refine aU aG a0 fun Q=>Y2 ?_
  refine ag.bJ (fun l=>Option.bind (rI g l f k) j=some r) b rfl (fun R m v b=>?_) (fun v b=>?_)
  ·rw [rI] at b;refine sk u (aO (tl [0,1,6]) (fun(z:Bs)=>[(5,.a (.d (.str z)))]) (fun z=>H) (fun z=>Option.bind (rI g (a0.l.drop (f+1)) (f+1) z) j=some r) ?_ ?_)
   ·intro U w;refine Y1 ?_;obtain⟨y,B,b⟩:=dA b;refine aO (tl [0,1,6]) (fun(z:Bs)=>[(5,.a (.d (.str z)))]) (fun z=>H) (fun z=>y z=some r) ?_ ?_
    ·intro W p;refine Y4 ?_;refine cO b (fun C b=>?_) (fun C b=>?_)
     ·refine Y3 ?_;obtain⟨E,F,b⟩:=aJ b;refine S (bX F) (Y2 ?_);exact p _ E wA b
     refine ag.skip ?_;exact p _ k wA b
    rintro X b;have b:=ku B b;refine Y4 ?_;obtain⟨Y,G,b⟩:=vO m b;refine S (ix aG f G) (Y1 ?_);obtain⟨I,J,b⟩:=aJ b;refine S (bX J) (Y2 ?_);obtain⟨Z,K,b⟩:=iy b;exact w _ I wA (ku K b:)
   rintro L b;refine Y5 ?_;exact t _ (L,(f+1)) wA b (dl m)
  rw [rI] at b;have b:=ku s b;refine ag.exit ?_;obtain⟨aa,M,b⟩:=bW b;exact q _ k wA (ku M b:)
 rintro ab b;refine Y4 ?_;exact rt b
def C6 (a0:Int):Int:=bif (decide (a0<(10:Int))) then((IntKind.wrap .u8 ((48:Int)+a0))) else((IntKind.wrap .u8 ((87:Int)+a0)))
theorem NS {a0 r}(b:some (C6 a0)=some r) (H:af) :At 220 [.d (.int .u8 a0)] H (RT (.a (.d (.int .u8 r))) H):=by
 unfold C6 at b;refine AC.oW 9 [.tmp 2] Tryz.call220 Tryz.func220 ?_;refine Y3 ?_;refine ar fun j f=>Y4 ?_;refine cP b (fun g b=>?_) (fun g b=>?_)
 ·refine Y5 ?_;exact rt b
 refine sk f (Y5 ?_);exact rt b
def xH (a0:Int):Option Bs:=bif (decide (a0=(34:Int))) then(some ([92,34]:Bs)) else(bif (decide (a0=(92:Int))) then(some ([92,92]:Bs)) else(bif (decide (a0=(10:Int))) then(some ([92,110]:Bs)) else(bif (decide (a0=(13:Int))) then(some ([92,114]:Bs)) else(bif (decide (a0=(9:Int))) then(some ([92,116]:Bs)) else(bif ((decide (a0<(32:Int)))||(decide ((126:Int)<a0))) then(on (C6 (IntKind.wrap .u8 (Int.tdiv a0 (16:Int)))) fun b=>on (C6 (Int.tmod a0 (16:Int))) fun f=>(a_ ([92,117,48,48]:Bs) (nN (⟨false,[b,f]⟩:Sl Int))).bind fun g=>some g) else(some (nN (⟨false,[a0]⟩:Sl Int))))))))
theorem XZ {a0 r}(b:xH a0=some r) (H:af) :At 218 [.d (.int .u8 a0)] H (RT (.a (.d (.str r))) H):=by
 unfold xH at b;refine AC.oW 32 [.tmp 2] Tryz.call218 Tryz.func218 ?_;refine Y3 ?_;refine ar fun z f=>Y8 ?_;refine cE b (fun g b=>?_) (fun g b=>?_)
 ·refine Y3 ?_;exact rt b
 refine Y4 ?_;refine cE b (fun j b=>?_) (fun j b=>?_)
 ·refine Y3 ?_;exact rt b
 refine Y4 ?_;refine cE b (fun k b=>?_) (fun k b=>?_)
 ·refine Y3 ?_;exact rt b
 refine Y4 ?_;refine cE b (fun l b=>?_) (fun l b=>?_)
 ·refine Y3 ?_;exact rt b
 refine Y4 ?_;refine cE b (fun m b=>?_) (fun m b=>?_)
 ·refine Y3 ?_;exact rt b
 refine sk f (ar fun B p=>Y5 ?_);refine Gk 17 ?_;refine Y2 ?_;refine cE b (fun q b=>?_) (fun q b=>?_)
 ·refine Y2 ?_;refine s0 (H_ rfl rfl (by decide)) rfl ?_;obtain⟨s,t,b⟩:=dQ b;refine Sc rfl rfl (NS t) (Y1 ?_);refine s0 (Ia rfl rfl (by decide)) rfl ?_;obtain⟨u,v,b⟩:=dQ b;refine Sc rfl rfl (NS v) (Y1 ?_);refine s0 (DQ (y:=(⟨false,[s,u]⟩:Sl Int)) (TK rfl) rfl (TK rfl) rfl (TK rfl) rfl rfl) rfl ?_;obtain⟨C,w,b⟩:=aX b;refine S (bX w) (Y2 ?_);exact rt b
 refine sk p (Y3 ?_);refine s0 (DQ (y:=(⟨false,[a0]⟩:Sl Int)) (TK rfl) rfl (TK rfl) rfl (TK rfl) rfl rfl) rfl ?_;refine Y2 ?_;exact rt b
def uk :List UInt8->Bs->Option (Bs)
 | [],b=>some b
 | f::g,b=>on (f) fun j=>(xH ((j.toNat:Nat):Int)).bind fun k=>(a_ b k).bind fun l=>uk  (g) l
def wJ (a0:Bs):Option Bs:=Option.bind (uk  a0 ([34]:Bs)) fun b=>on (b) fun f=>(a_ f ([34]:Bs)).bind fun g=>some g
theorem Q4 {a0 r}(b:wJ a0=some r) (H:af) :At 214 [.d (.str a0)] H (RT (.a (.d (.str r))) H):=by
 unfold wJ at b;refine AC.oW 19 [.tmp 2] Tryz.call214 Tryz.func214 ?_;refine Y6 ?_;refine aO kN (fun(z:Bs)=>[(3,.a (.d (.str z)))]) (fun z=>H) (fun z=>((a_ z ([34]:Bs)).bind fun f=>some f)=some r) ?_ ?_
 ·intro G p;refine Y4 ?_;obtain⟨g,q,b⟩:=bZ b;refine bz (tl [0]) (fun(z:Bs×Nat)=>[(3,.a (.d (.str z.1))),(4,vi z.2)]) (fun z=>H) (fun z=>a0.length-z.2) (fun z=>Option.bind (uk  (a0.drop z.2) z.1) g=some r) (([34]:Bs),0) b wA ?_;rintro ⟨j,k⟩ b I s;refine ar fun J t=>Y3 ?_;refine uI (TK rfl) rfl rfl rfl rfl fun K=>?_;refine Y2 ?_
  refine ag.bJ (fun l=>Option.bind (uk  l j) g=some r) b rfl (fun L m u b=>?_) (fun u b=>?_)
  ·rw [uk] at b;refine sk t (ar fun M v=>Y5 ?_);obtain⟨N,w,b⟩:=vO m b;refine s0 (su (n:=k) (TK rfl) rfl rfl rfl w) rfl ?_;obtain⟨O,y,b⟩:=aJ b;refine Sc rfl rfl (XZ y) ?_;obtain⟨B,C,b⟩:=aJ b;refine S (bX C) (Y2 ?_);refine v _ ?_;refine Y5 ?_;exact s _ (B,(k+1)) wA b (dl m)
  rw [uk] at b;have b:=ku q b;refine ag.exit ?_;obtain⟨P,E,b⟩:=bW b;exact p _ j wA (ku E b:)
 rintro Q b;refine Y2 ?_;obtain⟨f,F,b⟩:=aX b;refine S (bX F) (Y2 ?_);exact rt b
end Go.Proofs
