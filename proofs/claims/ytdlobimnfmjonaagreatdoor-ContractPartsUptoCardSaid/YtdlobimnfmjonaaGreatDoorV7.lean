import Derived.Test.YtdlobimnfmjonaaGreatDoorV6
set_option maxRecDepth 100000
set_option maxHeartbeats 2000000
set_option linter.unusedVariables false
set_option linter.unusedSimpArgs false
namespace Go.Proofs
open Go Go.Ab
open aK an ag dJ fN
attribute [local irreducible] aK aN ag an
variable {au:bS}
def ri (a0:ak) (g:aL) (j:Z9) (k:Z9):Option (Z9×Int):=(vj (Z1.mk a0 k true 0) j).bind fun l=>bif l then(on (ja a0 g.aa) fun m=>bif (!m) then(some ((Z9.mk 0 0 [] true [] Sl.nil),(10:Int))) else(some ((Z9.mk 0 0 [] true [] Sl.nil),(8:Int)))) else((E8 (Z1.mk a0 k true 0) g j (1:Int)).bind fun b=>(tP b.1 b.2.1).bind fun f=>some (f.1,f.2))
theorem Xg {a0 f g j oT gT r}(b:ri a0 f g j=some r) (H:af) (C:H gT=some oT) (E:iw Tryz.prog oT):At 86 [.agg (ak.c a0),.agg (aL.c f),.agg (Z9.c g),.agg (Z9.c j)] H (RT (.cL [.agg (Z9.c r.1),.d (.int .i64 r.2)]) H):=by
 unfold ri at b;refine AC.oW 34 [.cell 8 72,.tmp 9] Tryz.call86 Tryz.func86 ?_;refine yU ?_;refine sE (dm.yD rfl) rfl (fun _ _ _ ⟨k,F,l,m,p⟩=>?_);subst l m p;have G:k≠gT:=fun q=>by subst q; simp_all
 refine Y2 ?_;refine ar fun I s=>Y3 ?_;obtain⟨J,t,b⟩:=aX b;refine s0 (eE rfl rfl (Nh t _ az)) rfl ?_;refine Y1 ?_;refine cE b (fun u b=>?_) (fun u b=>?_)
 ·refine ar fun K v=>Y4 ?_;obtain⟨L,w,b⟩:=dQ b;refine Sc rfl rfl (Gc w) (Y2 ?_);refine cE b (fun y b=>?_) (fun y b=>?_)
  ·refine Y5 ?_;refine ry ?_;obtain rfl:=oJ b;refine bU.cH H rfl ⟨rfl,rfl⟩ ?_;exact sy
  refine sk v (Y5 ?_);refine ry ?_;obtain rfl:=oJ b;refine bU.cH H rfl ⟨rfl,rfl⟩ ?_;exact sy
 refine sk s (Y4 ?_);obtain⟨M,z,b⟩:=aX b;refine sH (bV rfl rfl (Xf (gT:=gT) (oT:=oT) z _ az az (by assumption))) rfl ?_;refine Y2 ?_;obtain⟨N,B,b⟩:=aX b;refine Sc rfl rfl (WY B) (Y5 ?_);refine ry ?_;obtain rfl:=oJ b;refine bU.cH H rfl ⟨rfl,rfl⟩ ?_;exact sy
def xm (a0:Z7) (j:Bs) (k:ak) (b:(Sl Z5)):Option (Sl Z5):=bif (!a0.ck) then(some b) else((ri k a0.av a0.cR (Z9.mk 0 0 [] true [] Sl.nil)).bind fun f=>bif (!decide (f.2=(0:Int))) then((bh 24 b (⟨false,[(Z5.mk 23 j)]⟩:Sl Z5)).bind fun g=>some g) else(some b))
theorem Nk {a0 p q g oT c3 b gT r}(f:xm a0 p q g=some r) (H:af) (z:H c3=some (.cells [Sl.d 2 Z5.c (some b) g])) (B:H b=some (.tok 2 g.l.length)) (C:H gT=some oT) (m:iw Tryz.prog oT):At 85 [.agg (Z7.c a0),.d (.str p),.d (.view (ak.c q)),.d (.ptr c3 0)] H (RT (.cL []) (((tS H b 2 r).set c3 (some (.cells [Sl.d 2 Z5.c (some b) r]))))):=by
 unfold xm at f;refine AC.oW 28 [] Tryz.call85 Tryz.func85 ?_;have E:c3≠b:=fun j=>by subst j; simp_all
 have F:gT≠b:=fun j=>by subst j; obtain⟨_,_,_,s,_⟩:=m; simp_all
 have G:gT≠c3:=fun j=>by subst j; obtain⟨_,_,_,s,_⟩:=m; simp_all
 refine hz ((tS H b 2 g).set c3 (some (.cells ([Sl.d 2 Z5.c (some b) g])))) (Y3 ?_);refine ar fun I t=>Y5 ?_;refine cE f (fun u f=>?_) (fun u f=>?_)
 ·exact rt f
 refine sk t (Y7 ?_);obtain⟨J,v,f⟩:=aX f;refine s0 (eE rfl rfl (Xg (gT:=gT) (oT:=oT) v _ az (by assumption))) rfl ?_;refine Y7 ?_;refine bC 6 _ rfl (kl [1,3,7]) ?_;refine Y4 ?_;refine cE f (fun w f=>?_) (fun w f=>?_)
 ·refine Y5 ?_;obtain⟨k,y,f⟩:=aX f;refine SH (am Z5.c (TK rfl) rfl (TK rfl) (TK rfl) y) ?_;refine dB (gw (TK rfl) rfl rfl az rfl (by repeat (first|exact bE.zero|apply bE.succ))) rfl rfl ?_;refine hq ((tS H b 2 k).set c3 (some (.cells ([Sl.d 2 Z5.c (some b) k])))) (Y1 ?_);repeat (first|refine fQ ?_|refine fP ?_|refine fO ?_)
  obtain rfl:=oJ f;refine bU.gj ((tS H b 2 k).set c3 (some (.cells ([Sl.d 2 Z5.c (some b) k])))) (xs:=[]) rfl ⟨rfl,rfl⟩ ?_;exact(fun _ _ h=>h)
 refine ag.skip ?_;repeat (first|refine fQ ?_|refine fP ?_|refine fO ?_)
 obtain rfl:=oJ f;refine bU.gj ((tS H b 2 g).set c3 (some (.cells ([Sl.d 2 Z5.c (some b) g])))) (xs:=[]) rfl ⟨rfl,rfl⟩ ?_;exact(fun _ _ h=>h)
def tR (a0:ak) (f:ah) (g:Z6):List Z7->(Sl Z5)->Option ((Sl Z5))
 | [],b=>some b
 | k::l,b=>on (k) fun j=>(a_ f.aa ([46]:Bs)).bind fun m=>(a_ m g.aa).bind fun p=>(a_ p ([40]:Bs)).bind fun q=>(a_ q j.aa).bind fun r=>(a_ r ([41]:Bs)).bind fun s=>(xm j s a0 b).bind fun t=>tR a0 f g (l) t
def rq (a0:ak) (f:ah):List Z6->(Sl Z5)->Option ((Sl Z5))
 | [],b=>some b
 | j::k,b=>on (j) fun g=>Option.bind (tR a0 f g g.ay.l b) fun m=>on (m) fun p=>rq a0 f (k) p
def rm (a0:ak) (f:ah):List Z7->(Sl Z5)->Option ((Sl Z5))
 | [],b=>some b
 | j::k,b=>on (j) fun g=>(a_ f.aa ([46]:Bs)).bind fun l=>(a_ l g.aa).bind fun m=>(xm g m a0 b).bind fun p=>rm a0 f (k) p
def p7 (a0:ak):List ah->(Sl Z5)->Option ((Sl Z5))
 | [],f=>some f
 | g::j,f=>on (g) fun b=>Option.bind (rq a0 b b.aq.l f) fun k=>on (k) fun m=>Option.bind (rm a0 b b.aF.l m) fun p=>on (p) fun q=>p7 a0 (j) q
def zO (a0:ak):Option (Sl Z5):=Option.bind (p7 a0 a0.aj.l (Sl.nil:Sl Z5)) fun b=>on (b) fun f=>some f
theorem Xh {a0 oT gT r}(b:zO a0=some r) (H:af) (a9:H gT=some oT) (a_:iw Tryz.prog oT):At 46 [.agg (ak.c a0)] H (RT (.a (.d (Sl.d 2 Z5.c none r))) H):=by
 unfold zO at b;refine AC.oW 70 [.tmp 2] Tryz.call46 Tryz.func46 ?_;refine Y2 ?_;refine s0 (dM (k':=2) rfl) rfl ?_;refine Y2 ?_;refine aK.tok 2 fun f a'=>?_;have ba:f≠gT:=fun u=>by subst u; simp_all
 refine sE (dm.AR (TK rfl) rfl) rfl (fun _ _ _ ⟨k,F,Q,R,U⟩=>?_);subst Q R U;obtain⟨bb,F⟩:=af.eA F;have bc:k≠gT:=fun u=>by subst u; simp_all
 refine aK.ph k _ az (fun j w cs hh hx=>tok_cell 0 2 2 hh (t:=f) az hx rfl) ?_;refine Y2 ?_;refine s0 (makeFunc rfl) rfl ?_;refine Y2 ?_;refine aO (tl [3]) (fun(z:(Sl Z5))=>[]) (fun z=>((tS H f 2 z).set k (some (.cells ([Sl.d 2 Z5.c (some f) z]))))) (fun z=>(some z)=some r) ?_ ?_
 ·intro bd W;refine Y3 ?_;refine aU ah.c a0.aj fun be=>Y3 ?_;obtain⟨p,X,b⟩:=bZ b;refine bz (tl [3,4,15,16]) (fun(z:Nat×(Sl Z5))=>[(17,vi z.1)]) (fun z=>((tS H f 2 z.2).set k (some (.cells ([Sl.d 2 Z5.c (some f) z.2]))))) (fun z=>a0.aj.l.length-z.1) (fun z=>Option.bind (p7 a0 (a0.aj.l.drop z.1) z.2) p=some r) (0,(Sl.nil:Sl Z5)) b wA ?_
  rintro ⟨q,v⟩ b bf Y;refine Y3 ?_;refine ar fun bg Z=>?_;refine ag.bJ (fun l=>Option.bind (p7 a0 l v) p=some r) b rfl (fun bh G aa b=>?_) (fun aa b=>?_)
  ·rw [p7] at b;refine sk Z (aO (tl [3,4,15,16,17]) (fun(z:(Sl Z5))=>[]) (fun z=>((tS H f 2 z).set k (some (.cells ([Sl.d 2 Z5.c (some f) z]))))) (fun z=>Option.bind (p7 a0 (a0.aj.l.drop (q+1)) z) p=some r) ?_ ?_)
   ·intro bi ab;refine Y2 ?_;obtain⟨g,ad,b⟩:=vO G b;refine S (ix ah.c q ad) (Y4 ?_);refine bC 6 _ rfl (kl [3,4,15,16,17]) ?_
    refine aO (tl [3,4,6,15,16,17]) (fun(z:(Sl Z5))=>[]) (fun z=>((tS H f 2 z).set k (some (.cells ([Sl.d 2 Z5.c (some f) z]))))) (fun z=>Option.bind (Option.bind (rm a0 g g.aF.l z) fun s=>on (s) fun y=>p7 a0 (a0.aj.l.drop (q+1)) y) p=some r) ?_ ?_
    ·intro bj ae;refine Y3 ?_;refine aU Z6.c g.aq fun bk=>Y3 ?_;obtain⟨B,ai,b⟩:=dA b;refine bz (tl [3,4,6,15,16,17,22,23]) (fun(z:Nat×(Sl Z5))=>[(24,vi z.1)]) (fun z=>((tS H f 2 z.2).set k (some (.cells ([Sl.d 2 Z5.c (some f) z.2]))))) (fun z=>g.aq.l.length-z.1) (fun z=>Option.bind (rq a0 g (g.aq.l.drop z.1) z.2) B=some r) (0,v) b wA ?_
     rintro ⟨C,E⟩ b bl al;refine Y3 ?_;refine ar fun bm am=>?_;refine ag.bJ (fun l=>Option.bind (rq a0 g l E) B=some r) b rfl (fun bn I ao b=>?_) (fun ao b=>?_)
     ·rw [rq] at b;refine sk am (aO (tl [3,4,6,15,16,17,22,23,24]) (fun(z:(Sl Z5))=>[]) (fun z=>((tS H f 2 z).set k (some (.cells ([Sl.d 2 Z5.c (some f) z]))))) (fun z=>Option.bind (rq a0 g (g.aq.l.drop (C+1)) z) B=some r) ?_ ?_)
      ·intro bo ap;refine Y2 ?_;obtain⟨m,au,b⟩:=vO I b;refine S (ix Z6.c C au) (Y4 ?_);refine bC 8 _ rfl (kl [3,4,6,15,16,17,22,23,24]) ?_;refine Y3 ?_;refine aU Z7.c m.ay fun bp=>Y3 ?_;obtain⟨J,av,b⟩:=dA b
       refine bz (tl [3,4,6,8,15,16,17,22,23,24,29,30]) (fun(z:Nat×(Sl Z5))=>[(31,vi z.1)]) (fun z=>((tS H f 2 z.2).set k (some (.cells ([Sl.d 2 Z5.c (some f) z.2]))))) (fun z=>m.ay.l.length-z.1) (fun z=>Option.bind (tR a0 g m (m.ay.l.drop z.1) z.2) J=some r) (0,E) b wA ?_;rintro ⟨K,L⟩ b bq aw;refine Y3 ?_;refine ar fun br ax=>?_
       refine ag.bJ (fun l=>Option.bind (tR a0 g m l L) J=some r) b rfl (fun bs M aA b=>?_) (fun aA b=>?_)
       ·rw [tR] at b;refine sk ax (ar fun bt aB=>Y2 ?_);obtain⟨bu,aC,b⟩:=vO M b;refine S (ix Z7.c K aC) (Y4 ?_);refine bC 10 _ rfl (kl [3,4,6,8,15,16,17,22,23,24,29,30,31]) ?_;refine Y5 ?_;obtain⟨bv,aD,b⟩:=aJ b;refine S (bX aD) (Y2 ?_);obtain⟨bw,aE,b⟩:=aJ b;refine S (bX aE) ?_;obtain⟨bx,aG,b⟩:=aJ b;refine S (bX aG) (Y2 ?_);obtain⟨bA,aH,b⟩:=aJ b
        refine S (bX aH) ?_;obtain⟨bB,aI,b⟩:=aJ b;refine S (bX aI) ?_;obtain⟨aL,aM,b⟩:=aJ b;refine sH (bV rfl rfl (Nk (gT:=gT) (oT:=oT) aM _ az az az (by assumption))) rfl ?_;refine Y1 ?_;refine aB _ ?_;refine Y4 ?_;exact aw _ ((K+1),aL) wA b (dl M)
       rw [tR] at b;have b:=ku av b;refine ag.exit ?_;obtain⟨bD,aP,b⟩:=iy b;exact ap _ L wA (ku aP b:)
      rintro aR b;refine Y4 ?_;exact al _ ((C+1),aR) wA b (dl I)
     rw [rq] at b;have b:=ku ai b;refine ag.exit ?_;obtain⟨bF,aS,b⟩:=iy b;exact ae _ E wA (ku aS b:)
    rintro aV b;refine Y3 ?_;refine aU Z7.c g.aF fun bG=>Y3 ?_;obtain⟨N,aW,b⟩:=dA b;refine bz (tl [3,4,6,15,16,17,52,53]) (fun(z:Nat×(Sl Z5))=>[(54,vi z.1)]) (fun z=>((tS H f 2 z.2).set k (some (.cells ([Sl.d 2 Z5.c (some f) z.2]))))) (fun z=>g.aF.l.length-z.1) (fun z=>Option.bind (rm a0 g (g.aF.l.drop z.1) z.2) N=some r) (0,aV) b wA ?_
    rintro ⟨O,s⟩ b bH aX;refine Y3 ?_;refine ar fun bI aY=>?_;refine ag.bJ (fun l=>Option.bind (rm a0 g l s) N=some r) b rfl (fun bK P aZ b=>?_) (fun aZ b=>?_)
    ·rw [rm] at b;refine sk aY (ar fun bL a1=>Y2 ?_);obtain⟨bM,a2,b⟩:=vO P b;refine S (ix Z7.c O a2) (Y4 ?_);refine bC 12 _ rfl (kl [3,4,6,15,16,17,52,53,54]) ?_;refine Y5 ?_;obtain⟨bN,a3,b⟩:=aJ b;refine S (bX a3) (Y2 ?_);obtain⟨bO,a4,b⟩:=aJ b;refine S (bX a4) ?_;obtain⟨a5,a6,b⟩:=aJ b
     refine sH (bV rfl rfl (Nk (gT:=gT) (oT:=oT) a6 _ az az az (by assumption))) rfl ?_;refine Y1 ?_;refine a1 _ ?_;refine Y4 ?_;exact aX _ ((O+1),a5) wA b (dl P)
    rw [rm] at b;have b:=ku aW b;refine ag.exit ?_;obtain⟨bP,a7,b⟩:=iy b;exact ab _ s wA (ku a7 b:)
   rintro y b;refine Y4 ?_;exact Y _ ((q+1),y) wA b (dl G)
  rw [p7] at b;have b:=ku X b;refine ag.exit ?_;obtain⟨bQ,a8,b⟩:=bW b;exact W _ v wA (ku a8 b:)
 rintro bR b;refine Y4 ?_;refine ag.eF 2 rfl ?_;exact rs b
def zN (a0:ak):Option (Sl Z5):=(zn a0 true).bind fun b=>bif (decide ((0:Int)<((b.l.length:Nat):Int))) then(some b) else((zD a0).bind fun f=>(zO a0).bind fun g=>(bh 24 f g).bind fun j=>some j)
def CT (a0:ak):Option (Sl Z5):=zN a0
theorem Ve (a0:ak):CT a0=zN a0:=rfl
theorem Xi {a0 oT gT r}(b:CT a0=some r) (H:af) (u:H gT=some oT) (v:iw Tryz.prog oT):At 22 [.agg (ak.c a0)] H (RT (.a (.d (Sl.d 2 Z5.c none r))) H):=by
 unfold CT zN at b;refine AC.oW 15 [.tmp 2] Tryz.call22 Tryz.func22 ?_;refine Y2 ?_;refine s0 (dM (k':=2) rfl) rfl ?_;refine Y1 ?_;refine ar fun w g=>Y2 ?_;obtain⟨j,k,b⟩:=aX b;refine Sc rfl rfl (WG k) (Y4 ?_);refine aU Z5.c j fun y=>Y2 ?_;refine cE b (fun l b=>?_) (fun l b=>?_)
 ·refine Y4 ?_;exact rt b
 refine sk g (ag.tok 2 fun m z=>?_);have B:m≠gT:=fun p=>by subst p; simp_all
 refine Y2 ?_;obtain⟨C,q,b⟩:=aX b;refine aN.sH (bV rfl rfl (WX q _ az)) rfl ?_;refine Y1 ?_;obtain⟨E,s,b⟩:=aX b;refine aN.s0 (eE rfl rfl (Xh (gT:=gT) (oT:=oT) s _ az (by assumption))) rfl ?_;obtain⟨F,t,b⟩:=aX b;refine aN.sH (jy (f:=Z5.c) (TK rfl) rfl (TK rfl) (TK rfl) ⟨_,rfl⟩ rfl rfl (by decide) rfl rfl rfl rfl az rfl t) rfl ?_;refine Y2 ?_
 refine ag.eF 2 rfl ?_;refine ry ?_;obtain rfl:=oJ b;refine bU.cH H rfl ⟨rfl,rfl⟩ ?_;exact sy
def qa (a0:Z7):Bool:=on (jB a0.av) fun x3=>((!x3)||a0.ck)
theorem Nl {a0 r}(b:some (qa a0)=some r) (H:af) :At 117 [.agg (Z7.c a0)] H (RT (.a (.d (.bool r))) H):=by
 unfold qa at b;refine AC.oW 11 [.tmp 2] Tryz.call117 Tryz.func117 ?_;refine Y7 ?_;obtain⟨x3,f,b⟩:=ff b;refine Sc rfl rfl (um f) (Y3 ?_);refine Gk 8 ?_;refine Y3 ?_;exact rt b
def Gl  :Option Int:=some (-1:Int)
def CU (a0:(Sl Z7)) (f:(Z7->Option Bool)) :Nat->Nat->Option Int
 | 0,_=>none
 | g+1,b=>bif (decide (((b:Nat):Int)<((a0.l.length:Nat):Int))) then((a0.l[b]?).bind fun j=>(f j).bind fun k=>bif k then(some ((b:Nat):Int)) else((CU a0 f g) (b+1))) else(Gl   )
def CV (a0:(Sl Z7)) (b:(Z7->Option Bool)):Option Int:=CU a0 b (a0.l.length+1) 0
theorem Nn {a0 g w0 j r}(b:CV a0 g=some r) (H:af) (p:∀k r,g k=some r->gN Tryz.prog j [.agg (Z7.c k)] H (RT (.a (.d (.bool r))) H)):At 149 [.d (Sl.d 10 Z7.c w0 a0),.d j] H (RT (.a (.d (.int .i64 r))) H):=by
 unfold CV at b;refine AC.oW 19 [.tmp 4] Tryz.call149 Tryz.func149 ?_;refine Y3 ?_;refine aO kN (fun(z:Unit)=>[]) (fun z=>H) (fun z=>Gl =some r) ?_ ?_
 ·intro C q;refine Y2 ?_;refine aU Z7.c a0 fun E=>Y3 ?_;refine bz (tl [0,1,7]) (fun(z:Nat×Nat)=>[(8,vi z.2)]) (fun z=>H) (fun z=>z.1) (fun z=>CU a0 g z.1 z.2=some r) ((a0.l.length+1),0) b wA ?_;rintro ⟨f,m⟩ b F s;cases f with
  | zero=>cases b
  | succ f =>
    rw [CU] at b;refine Y3 ?_;refine ar fun G t=>?_;refine cE b (fun u b=>?_) (fun u b=>?_)
    ·refine sk t (ar fun I v=>Y9 ?_);obtain⟨J,w,b⟩:=bO b;refine S (ix Z7.c m w) (Y1 ?_);obtain⟨K,y,b⟩:=bO b;refine s0 (mv rfl rfl (p _ _ y)) rfl ?_;refine Y1 ?_;refine cE b (fun B b=>?_) (fun B b=>?_)
     ·refine Y4 ?_;exact rt b
     refine sk v (Y4 ?_);exact s _ (f,(m+1)) wA b (nS _)
    refine ag.exit ?_;exact q _ () wA b
 rintro _ b;unfold Gl at b;refine Y3 ?_;exact rt b
def No (a0:(Sl Z7)) (b:(Z7->Option Bool)):Option Bool:=(CV a0 b).bind fun x3=>some (decide ((0:Int)<=x3))
theorem Xj {a0 a1 w0 f r}(b:No a0 a1=some r) (H:af) (j:∀g r,a1 g=some r->gN Tryz.prog f [.agg (Z7.c g)] H (RT (.a (.d (.bool r))) H)):At 115 [.d (Sl.d 10 Z7.c w0 a0),.d f] H (RT (.a (.d (.bool r))) H):=by
 unfold No at b;refine AC.oW 9 [.tmp 4] Tryz.call115 Tryz.func115 ?_;refine Y6 ?_;obtain⟨x3,k,b⟩:=bO b;refine s0 (eE rfl rfl (Nn k _ j)) rfl ?_;refine Y3 ?_;exact rt b
def Gm (a0:(Sl Z7))  (b:Int):Option (Sl Z7):=(mu a0 (some b) none).bind fun f=>none
def Gn (b:Int) (f:Int->Int->Option (Sl Z7)) (g:Int):Option (Sl Z7):=(cN b (1:Int)).bind fun j=>f g j
def Ao (a0:(Sl Z7)) (g:(Z7->Option Bool)) :Nat->Int->Int->Option (Sl Z7)
 | 0,_,_=>none
 | j+1,b,f=>bif (decide (f<((a0.l.length:Nat):Int))) then((c_ a0.l f).bind fun k=>(g k).bind fun m=>bif (!m) then((c_ a0.l b).bind fun p=>none) else(Gn f ((Ao a0 g j)) b)) else(Gm a0  b)
def Np (a0:(Sl Z7)) (b:(Z7->Option Bool)):Option (Sl Z7):=(CV a0 b).bind fun x3=>bif (decide (x3=(-1:Int))) then(some a0) else((cN x3 (1:Int)).bind fun f=>Ao a0 b F0 x3 f)
theorem Xk {a0 a1 w0 j r}(b:Np a0 a1=some r) (H:af) (k:∀m r,a1 m=some r->gN Tryz.prog j [.agg (Z7.c m)] H (RT (.a (.d (.bool r))) H)):At 118 [.d (Sl.d 10 Z7.c w0 a0),.d j] H (RT (.a (.d (Sl.d 10 Z7.c none r))) H):=by
 unfold Np at b;refine AC.oW 42 [.tmp 4] Tryz.call118 Tryz.func118 ?_;refine Y1 ?_;refine s0 (dM (k':=10) rfl) rfl ?_;refine Y4 ?_;obtain⟨x3,q,b⟩:=bO b;refine s0 (eE rfl rfl (Nn q _ k)) rfl ?_;refine Y2 ?_;refine ar fun Q s=>Y4 ?_;refine cE b (fun t b=>?_) (fun t b=>?_)
 ·refine Y4 ?_;refine ag.eF 4 rfl ?_;exact rt b
 refine sk s (aO (tl [0]) (fun(z:Int)=>[(5,.a (.d (.int .i64 z)))]) (fun z=>H) (fun z=>Gm a0 z=some r) ?_ ?_)
 ·intro R u;refine Y2 ?_;obtain⟨v,w,b⟩:=bO b;refine S (fp w) (Y3 ?_);refine bz (tl [0,1]) (fun(z:Nat×Int×Int)=>[(5,.a (.d (.int .i64 z.2.1))),(6,.a (.d (.int .i64 z.2.2)))]) (fun z=>H) (fun z=>z.1) (fun z=>Ao a0 a1 z.1 z.2.1 z.2.2=some r) (F0,x3,v) b wA ?_;rintro ⟨g,p,y⟩ b U B;cases g with
  | zero=>cases b
  | succ g =>
    rw [Ao] at b;refine ar fun W C=>Y3 ?_;refine aU Z7.c a0 fun X=>Y2 ?_;refine cE b (fun E b=>?_) (fun E b=>?_)
    ·refine sk C (aO (tl [0,1,6]) (fun(z:Int)=>[(5,.a (.d (.int .i64 z)))]) (fun z=>H) (fun z=>Gn y ((Ao a0 a1 g)) z=some r) ?_ ?_)
     ·intro Y F;refine Y4 ?_;obtain⟨Z,G,b⟩:=bO b;refine s0 (iV (f:=Z7.c) (TK rfl) rfl (TK rfl) rfl rfl rfl G) rfl ?_;refine Y4 ?_;refine bC 7 _ rfl (kl [0,1,5,6]) ?_;refine Y3 ?_;obtain⟨aa,I,b⟩:=bO b;refine s0 (mv rfl rfl (k _ _ I)) rfl ?_;refine Y2 ?_;refine cE b (fun J b=>?_) (fun J b=>?_)
      ·refine ar fun ab ad=>Y4 ?_;obtain⟨ae,K,b⟩:=bO b;refine s0 (iV (f:=Z7.c) (TK rfl) rfl (TK rfl) rfl rfl rfl K) rfl ?_;cases b
      refine ag.skip ?_;exact F _ p wA b
     rintro L b;unfold Gn at b;refine Y2 ?_;obtain⟨M,N,b⟩:=bO b;refine S (fp N) (Y2 ?_);exact B _ (g,L,M) wA b (nS _)
    refine ag.exit ?_;exact u _ p wA b
 rintro O b;unfold Gm at b;refine ar fun ah ai=>Y3 ?_;obtain⟨aj,P,b⟩:=bO b;refine s0 (lN (f:=Z7.c) (l:=(some O)) (r:=none) (TK rfl) rfl (TK rfl) rfl rfl rfl trivial P) rfl ?_;cases b
def Gp (a0:(Sl Z8))  (b:Int):Option (Sl Z8):=(mu a0 (some b) none).bind fun f=>none
def Gq (b:Int) (f:Int->Int->Option (Sl Z8)) (g:Int):Option (Sl Z8):=(cN b (1:Int)).bind fun j=>f g j
def Ap (a0:(Sl Z8)) (g:(Z8->Option Bool)) :Nat->Int->Int->Option (Sl Z8)
 | 0,_,_=>none
 | j+1,b,f=>bif (decide (f<((a0.l.length:Nat):Int))) then((c_ a0.l f).bind fun k=>(g k).bind fun m=>bif (!m) then((c_ a0.l b).bind fun p=>none) else(Gq f ((Ap a0 g j)) b)) else(Gp a0  b)
def Nq (a0:(Sl Z8)) (b:(Z8->Option Bool)):Option (Sl Z8):=(xX a0 b).bind fun x3=>bif (decide (x3=(-1:Int))) then(some a0) else((cN x3 (1:Int)).bind fun f=>Ap a0 b F0 x3 f)
theorem Xl {a0 a1 w0 j r}(b:Nq a0 a1=some r) (H:af) (k:∀m r,a1 m=some r->gN Tryz.prog j [.agg (Z8.c m)] H (RT (.a (.d (.bool r))) H)):At 75 [.d (Sl.d 2 Z8.c w0 a0),.d j] H (RT (.a (.d (Sl.d 2 Z8.c none r))) H):=by
 unfold Nq at b;refine AC.oW 42 [.tmp 4] Tryz.call75 Tryz.func75 ?_;refine Y1 ?_;refine s0 (dM (k':=2) rfl) rfl ?_;refine Y4 ?_;obtain⟨x3,q,b⟩:=bO b;refine s0 (eE rfl rfl (Nd q _ k)) rfl ?_;refine Y2 ?_;refine ar fun Q s=>Y4 ?_;refine cE b (fun t b=>?_) (fun t b=>?_)
 ·refine Y4 ?_;refine ag.eF 4 rfl ?_;exact rt b
 refine sk s (aO (tl [0]) (fun(z:Int)=>[(5,.a (.d (.int .i64 z)))]) (fun z=>H) (fun z=>Gp a0 z=some r) ?_ ?_)
 ·intro R u;refine Y2 ?_;obtain⟨v,w,b⟩:=bO b;refine S (fp w) (Y3 ?_);refine bz (tl [0,1]) (fun(z:Nat×Int×Int)=>[(5,.a (.d (.int .i64 z.2.1))),(6,.a (.d (.int .i64 z.2.2)))]) (fun z=>H) (fun z=>z.1) (fun z=>Ap a0 a1 z.1 z.2.1 z.2.2=some r) (F0,x3,v) b wA ?_;rintro ⟨g,p,y⟩ b U B;cases g with
  | zero=>cases b
  | succ g =>
    rw [Ap] at b;refine ar fun W C=>Y3 ?_;refine aU Z8.c a0 fun X=>Y2 ?_;refine cE b (fun E b=>?_) (fun E b=>?_)
    ·refine sk C (aO (tl [0,1,6]) (fun(z:Int)=>[(5,.a (.d (.int .i64 z)))]) (fun z=>H) (fun z=>Gq y ((Ap a0 a1 g)) z=some r) ?_ ?_)
     ·intro Y F;refine Y4 ?_;obtain⟨Z,G,b⟩:=bO b;refine s0 (iV (f:=Z8.c) (TK rfl) rfl (TK rfl) rfl rfl rfl G) rfl ?_;refine Y4 ?_;refine bC 7 _ rfl (kl [0,1,5,6]) ?_;refine Y3 ?_;obtain⟨aa,I,b⟩:=bO b;refine s0 (mv rfl rfl (k _ _ I)) rfl ?_;refine Y2 ?_;refine cE b (fun J b=>?_) (fun J b=>?_)
      ·refine ar fun ab ad=>Y4 ?_;obtain⟨ae,K,b⟩:=bO b;refine s0 (iV (f:=Z8.c) (TK rfl) rfl (TK rfl) rfl rfl rfl K) rfl ?_;cases b
      refine ag.skip ?_;exact F _ p wA b
     rintro L b;unfold Gq at b;refine Y2 ?_;obtain⟨M,N,b⟩:=bO b;refine S (fp N) (Y2 ?_);exact B _ (g,L,M) wA b (nS _)
    refine ag.exit ?_;exact u _ p wA b
 rintro O b;unfold Gp at b;refine ar fun ah ai=>Y3 ?_;obtain⟨aj,P,b⟩:=bO b;refine s0 (lN (f:=Z8.c) (l:=(some O)) (r:=none) (TK rfl) rfl (TK rfl) rfl rfl rfl trivial P) rfl ?_;cases b
def Gr (a0:(Sl Bs))  (b:Int):Option (Sl Bs):=(mu a0 (some b) none).bind fun f=>none
def Gs (b:Int) (f:Int->Int->Option (Sl Bs)) (g:Int):Option (Sl Bs):=(cN b (1:Int)).bind fun j=>f g j
def Aq (a0:(Sl Bs)) (g:(Bs->Option Bool)) :Nat->Int->Int->Option (Sl Bs)
 | 0,_,_=>none
 | j+1,b,f=>bif (decide (f<((a0.l.length:Nat):Int))) then((c_ a0.l f).bind fun k=>(g k).bind fun m=>bif (!m) then((c_ a0.l b).bind fun p=>none) else(Gs f ((Aq a0 g j)) b)) else(Gr a0  b)
def Nr (a0:(Sl Bs)) (b:(Bs->Option Bool)):Option (Sl Bs):=(xT a0 b).bind fun x3=>bif (decide (x3=(-1:Int))) then(some a0) else((cN x3 (1:Int)).bind fun f=>Aq a0 b F0 x3 f)
theorem Xm {a0 a1 w0 j r}(b:Nr a0 a1=some r) (H:af) (k:∀m r,a1 m=some r->gN Tryz.prog j [.d (.str m)] H (RT (.a (.d (.bool r))) H)):At 77 [.d (Sl.d 1 aG w0 a0),.d j] H (RT (.a (.d (Sl.d 1 aG none r))) H):=by
 unfold Nr at b;refine AC.oW 42 [.tmp 4] Tryz.call77 Tryz.func77 ?_;refine Y1 ?_;refine s0 (dM (k':=1) rfl) rfl ?_;refine Y4 ?_;obtain⟨x3,q,b⟩:=bO b;refine s0 (eE rfl rfl (M4 q _ k)) rfl ?_;refine Y2 ?_;refine ar fun Q s=>Y4 ?_;refine cE b (fun t b=>?_) (fun t b=>?_)
 ·refine Y4 ?_;refine ag.eF 4 rfl ?_;exact rt b
 refine sk s (aO (tl [0]) (fun(z:Int)=>[(5,.a (.d (.int .i64 z)))]) (fun z=>H) (fun z=>Gr a0 z=some r) ?_ ?_)
 ·intro R u;refine Y2 ?_;obtain⟨v,w,b⟩:=bO b;refine S (fp w) (Y3 ?_);refine bz (tl [0,1]) (fun(z:Nat×Int×Int)=>[(5,.a (.d (.int .i64 z.2.1))),(6,.a (.d (.int .i64 z.2.2)))]) (fun z=>H) (fun z=>z.1) (fun z=>Aq a0 a1 z.1 z.2.1 z.2.2=some r) (F0,x3,v) b wA ?_;rintro ⟨g,p,y⟩ b U B;cases g with
  | zero=>cases b
  | succ g =>
    rw [Aq] at b;refine ar fun W C=>Y3 ?_;refine aU aG a0 fun X=>Y2 ?_;refine cE b (fun E b=>?_) (fun E b=>?_)
    ·refine sk C (aO (tl [0,1,6]) (fun(z:Int)=>[(5,.a (.d (.int .i64 z)))]) (fun z=>H) (fun z=>Gs y ((Aq a0 a1 g)) z=some r) ?_ ?_)
     ·intro Y F;refine Y4 ?_;obtain⟨Z,G,b⟩:=bO b;refine s0 (iV (f:=aG) (TK rfl) rfl (TK rfl) rfl rfl rfl G) rfl ?_;refine Y6 ?_;obtain⟨aa,I,b⟩:=bO b;refine s0 (mv rfl rfl (k _ _ I)) rfl ?_;refine Y2 ?_;refine cE b (fun J b=>?_) (fun J b=>?_)
      ·refine ar fun ab ad=>Y4 ?_;obtain⟨ae,K,b⟩:=bO b;refine s0 (iV (f:=aG) (TK rfl) rfl (TK rfl) rfl rfl rfl K) rfl ?_;cases b
      refine ag.skip ?_;exact F _ p wA b
     rintro L b;unfold Gs at b;refine Y2 ?_;obtain⟨M,N,b⟩:=bO b;refine S (fp N) (Y2 ?_);exact B _ (g,L,M) wA b (nS _)
    refine ag.exit ?_;exact u _ p wA b
 rintro O b;unfold Gr at b;refine ar fun ah ai=>Y3 ?_;obtain⟨aj,P,b⟩:=bO b;refine s0 (lN (f:=aG) (l:=(some O)) (r:=none) (TK rfl) rfl (TK rfl) rfl rfl rfl trivial P) rfl ?_;cases b
end Go.Proofs
