import Derived.Test.YtdlobimnfmjonaaGreatDoorV6
set_option maxRecDepth 100000
set_option maxHeartbeats 2000000
set_option linter.unusedVariables false
set_option linter.unusedSimpArgs false
namespace Go.Proofs
open Go Go.Ab
open aJ aq ah dN fT
attribute [local irreducible] aJ aN ah aq
variable {av:bR}
def qK (a0:ai) (g:aL) (j:Z9) (k:Z9):Option (Z9×Int):=(uW (Z1.mk a0 k true 0) j).bind fun l=>bif l then(on (iQ a0 g.aa) fun m=>bif (!m) then(some ((Z9.mk 0 0 [] true [] Sl.nil),(10:Int))) else(some ((Z9.mk 0 0 [] true [] Sl.nil),(8:Int)))) else((EQ (Z1.mk a0 k true 0) g j (1:Int)).bind fun b=>(tf b.1 b.2.1).bind fun f=>some (f.1,f.2))
theorem WZ {a0 f g j oT gT r}(b:qK a0 f g j=some r) (H:af) (C:H gT=some oT) (E:iq Tryz.prog oT):AC Tryz.prog 86 [.agg (ai.c a0),.agg (aL.c f),.agg (Z9.c g),.agg (Z9.c j)] H (RT (.cI [.agg (Z9.c r.1),.d (.int .i64 r.2)]) H):=by
 unfold qK at b;refine AC.oW 34 [.cell 8 72,.tmp 9] Tryz.call86 Tryz.func86 ?_;refine yt ?_;refine sE (dx.xX rfl) rfl (fun _ _ _ ⟨k,F,l,m,p⟩=>?_);subst l m p;have G:k≠gT:=fun q=>by subst q; simp_all
 refine Y2 ?_;refine ar fun I s=>Y3 ?_;obtain⟨J,t,b⟩:=qT rfl b;refine s0 (eY rfl rfl (MQ t _ aA)) rfl ?_;refine Y1 ?_;refine cE b (fun u b=>?_) (fun u b=>?_)
 ·refine ar fun K v=>Y4 ?_;obtain⟨L,w,b⟩:=vT rfl b;refine Sc rfl rfl (FL w) (Y2 ?_);refine cE b (fun y b=>?_) (fun y b=>?_)
  ·refine Y5 ?_;refine ry ?_;obtain rfl:=oJ b;refine bH.b9 H rfl ⟨rfl,rfl⟩ ?_;exact sy
  refine sk v (Y5 ?_);refine ry ?_;obtain rfl:=oJ b;refine bH.b9 H rfl ⟨rfl,rfl⟩ ?_;exact sy
 refine sk s (Y4 ?_);obtain⟨M,z,b⟩:=qT rfl b;refine sH (bS rfl rfl (WY (gT:=gT) (oT:=oT) z _ aA aA (by assumption))) rfl ?_;refine Y2 ?_;obtain⟨N,B,b⟩:=qT rfl b;refine Sc rfl rfl (WE B) (Y5 ?_);refine ry ?_;obtain rfl:=oJ b;refine bH.b9 H rfl ⟨rfl,rfl⟩ ?_;exact sy
def wN (a0:Z7) (j:Bs) (k:ai) (b:(Sl Z5)):Option (Sl Z5):=bif (!a0.b_) then(some b) else((qK k a0.ax a0.dm (Z9.mk 0 0 [] true [] Sl.nil)).bind fun f=>bif (!decide (f.2=(0:Int))) then((bf 24 b (⟨false,[(Z5.mk 23 j)]⟩:Sl Z5)).bind fun g=>some g) else(some b))
theorem MT {a0 p q g oT c3 b gT r}(f:wN a0 p q g=some r) (H:af) (B:H c3=some (.cells [Sl.d 2 Z5.c (some b) g])) (C:H b=some (.tok 2 g.l.length)) (E:H gT=some oT) (m:iq Tryz.prog oT):AC Tryz.prog 85 [.agg (Z7.c a0),.d (.str p),.d (.view (ai.c q)),.d (.ptr c3 0)] H fun v h'=>v=.cI []/\h'=((tS H b 2 r).set c3 (some (.cells [Sl.d 2 Z5.c (some b) r]))):=by
 unfold wN at f;refine AC.oW 28 [] Tryz.call85 Tryz.func85 ?_;have F:c3≠b:=fun j=>by subst j; simp_all
 have G:gT≠b:=fun j=>by subst j; obtain⟨_,_,_,s,_⟩:=m; simp_all
 have I:gT≠c3:=fun j=>by subst j; obtain⟨_,_,_,s,_⟩:=m; simp_all
 refine hz ((tS H b 2 g).set c3 (some (.cells ([Sl.d 2 Z5.c (some b) g])))) (Y3 ?_);refine ar fun J t=>Y5 ?_;refine cE f (fun u f=>?_) (fun u f=>?_)
 ·exact rt f
 refine sk t (Y7 ?_);obtain⟨K,w,f⟩:=qT rfl f;refine s0 (eY rfl rfl (WZ (gT:=gT) (oT:=oT) w _ aA (by assumption))) rfl ?_;refine Y7 ?_;refine bx 6 _ rfl (kl [1,3,7]) ?_;refine Y4 ?_;refine cE f (fun y f=>?_) (fun y f=>?_)
 ·refine Y5 ?_;obtain⟨k,z,f⟩:=qT rfl f;refine SH (am Z5.c (TK rfl) rfl (TK rfl) (TK rfl) z) ?_;refine hq ((tS H b 2 k).set c3 (some (.cells ([Sl.d 2 Z5.c (some b) g])))) (dG (gv (TK rfl) rfl rfl aA rfl (by repeat (first|exact bn.zero|apply bn.succ))) rfl rfl ?_);refine hq ((tS H b 2 k).set c3 (some (.cells ([Sl.d 2 Z5.c (some b) k])))) (Y1 ?_)
  repeat (first|refine fW ?_|refine fV ?_|refine fU ?_)
  obtain rfl:=oJ f;refine bH.gm ((tS H b 2 k).set c3 (some (.cells ([Sl.d 2 Z5.c (some b) k])))) (xs:=[]) rfl ⟨rfl,rfl⟩ ?_;exact(fun _ _ h=>h)
 refine ah.skip ?_;repeat (first|refine fW ?_|refine fV ?_|refine fU ?_)
 obtain rfl:=oJ f;refine bH.gm ((tS H b 2 g).set c3 (some (.cells ([Sl.d 2 Z5.c (some b) g])))) (xs:=[]) rfl ⟨rfl,rfl⟩ ?_;exact(fun _ _ h=>h)
def tj (a0:ai) (f:ag) (g:Z6):List Z7->(Sl Z5)->Option ((Sl Z5))
 | [],b=>some b
 | k::l,b=>on (k) fun j=>(bV f.aa ([46]:Bs)).bind fun m=>(bV m g.aa).bind fun p=>(bV p ([40]:Bs)).bind fun q=>(bV q j.aa).bind fun r=>(bV r ([41]:Bs)).bind fun s=>(wN j s a0 b).bind fun t=>tj a0 f g (l) t
def qP (a0:ai) (f:ag):List Z6->(Sl Z5)->Option ((Sl Z5))
 | [],b=>some b
 | j::k,b=>on (j) fun g=>Option.bind (tj a0 f g g.az.l b) fun m=>on (m) fun p=>qP a0 f (k) p
def qM (a0:ai) (f:ag):List Z7->(Sl Z5)->Option ((Sl Z5))
 | [],b=>some b
 | j::k,b=>on (j) fun g=>(bV f.aa ([46]:Bs)).bind fun l=>(bV l g.aa).bind fun m=>(wN g m a0 b).bind fun p=>qM a0 f (k) p
def pG (a0:ai):List ag->(Sl Z5)->Option ((Sl Z5))
 | [],f=>some f
 | g::j,f=>on (g) fun b=>Option.bind (qP a0 b b.an.l f) fun k=>on (k) fun m=>Option.bind (qM a0 b b.ay.l m) fun p=>on (p) fun q=>pG a0 (j) q
def zn (a0:ai):Option (Sl Z5):=Option.bind (pG a0 a0.aj.l (Sl.nil:Sl Z5)) fun b=>on (b) fun f=>some f
theorem W0 {a0 oT gT r}(b:zn a0=some r) (H:af) (a_:H gT=some oT) (a':iq Tryz.prog oT):AC Tryz.prog 46 [.agg (ai.c a0)] H (RT (.a (.d (Sl.d 2 Z5.c none r))) H):=by
 unfold zn at b;refine AC.oW 70 [.tmp 2] Tryz.call46 Tryz.func46 ?_;refine Y2 ?_;refine s0 (di (k':=2) rfl) rfl ?_;refine Y2 ?_;refine aJ.tok 2 fun f ba=>?_;have bb:f≠gT:=fun m=>by subst m; simp_all
 refine sE (dx.As (TK rfl) rfl) rfl (fun _ _ _ ⟨k,F,U,W,X⟩=>?_);subst U W X;obtain⟨bc,F⟩:=af.dW F;have bd:k≠gT:=fun m=>by subst m; simp_all
 refine aJ.oE k _ aA (fun j w cs hh hx=>tok_cell 0 2 2 hh (t:=f) aA hx rfl) ?_;refine Y2 ?_;refine s0 (makeFunc rfl) rfl ?_;refine Y2 ?_;refine aR (tl [3]) (fun(z:(Sl Z5))=>[]) (fun z=>((tS H f 2 z).set k (some (.cells ([Sl.d 2 Z5.c (some f) z]))))) (fun z=>(some z)=some r) ?_ ?_
 ·intro be Y;refine Y3 ?_;refine aT ag.c a0.aj fun bf=>Y3 ?_;obtain⟨q,Z,b⟩:=bZ b;refine bD (tl [3,4,15,16]) (fun(z:Nat×(Sl Z5))=>[(17,vi z.1)]) (fun z=>((tS H f 2 z.2).set k (some (.cells ([Sl.d 2 Z5.c (some f) z.2]))))) (fun z=>a0.aj.l.length-z.1) (fun z=>Option.bind (pG a0 (a0.aj.l.drop z.1) z.2) q=some r) (0,(Sl.nil:Sl Z5)) b wA ?_
  rintro ⟨s,v⟩ b bg aa;refine Y3 ?_;refine ar fun bh ab=>?_;refine ah.bL (fun l=>Option.bind (pG a0 l v) q=some r) b rfl (fun bi G ad b=>?_) (fun ad b=>?_)
  ·rw [pG] at b;refine sk ab (aR (tl [3,4,15,16,17]) (fun(z:(Sl Z5))=>[]) (fun z=>((tS H f 2 z).set k (some (.cells ([Sl.d 2 Z5.c (some f) z]))))) (fun z=>Option.bind (pG a0 (a0.aj.l.drop (s+1)) z) q=some r) ?_ ?_)
   ·intro bj ae;refine Y2 ?_;obtain⟨g,ak,b⟩:=vO G b;refine S (ix ag.c s ak) (Y4 ?_);refine bx 6 _ rfl (kl [3,4,15,16,17]) ?_
    refine aR (tl [3,4,6,15,16,17]) (fun(z:(Sl Z5))=>[]) (fun z=>((tS H f 2 z).set k (some (.cells ([Sl.d 2 Z5.c (some f) z]))))) (fun z=>Option.bind (Option.bind (qM a0 g g.ay.l z) fun u=>on (u) fun y=>pG a0 (a0.aj.l.drop (s+1)) y) q=some r) ?_ ?_
    ·intro bk al;refine Y3 ?_;refine aT Z6.c g.an fun bl=>Y3 ?_;obtain⟨B,am,b⟩:=cM b;refine bD (tl [3,4,6,15,16,17,22,23]) (fun(z:Nat×(Sl Z5))=>[(24,vi z.1)]) (fun z=>((tS H f 2 z.2).set k (some (.cells ([Sl.d 2 Z5.c (some f) z.2]))))) (fun z=>g.an.l.length-z.1) (fun z=>Option.bind (qP a0 g (g.an.l.drop z.1) z.2) B=some r) (0,v) b wA ?_
     rintro ⟨C,E⟩ b bm ao;refine Y3 ?_;refine ar fun bo ap=>?_;refine ah.bL (fun l=>Option.bind (qP a0 g l E) B=some r) b rfl (fun bp I au b=>?_) (fun au b=>?_)
     ·rw [qP] at b;refine sk ap (aR (tl [3,4,6,15,16,17,22,23,24]) (fun(z:(Sl Z5))=>[]) (fun z=>((tS H f 2 z).set k (some (.cells ([Sl.d 2 Z5.c (some f) z]))))) (fun z=>Option.bind (qP a0 g (g.an.l.drop (C+1)) z) B=some r) ?_ ?_)
      ·intro bq av;refine Y2 ?_;obtain⟨p,aw,b⟩:=vO I b;refine S (ix Z6.c C aw) (Y4 ?_);refine bx 8 _ rfl (kl [3,4,6,15,16,17,22,23,24]) ?_;refine Y3 ?_;refine aT Z7.c p.az fun br=>Y3 ?_;obtain⟨J,ax,b⟩:=cM b
       refine bD (tl [3,4,6,8,15,16,17,22,23,24,29,30]) (fun(z:Nat×(Sl Z5))=>[(31,vi z.1)]) (fun z=>((tS H f 2 z.2).set k (some (.cells ([Sl.d 2 Z5.c (some f) z.2]))))) (fun z=>p.az.l.length-z.1) (fun z=>Option.bind (tj a0 g p (p.az.l.drop z.1) z.2) J=some r) (0,E) b wA ?_;rintro ⟨K,L⟩ b bs aB;refine Y3 ?_;refine ar fun bt aC=>?_
       refine ah.bL (fun l=>Option.bind (tj a0 g p l L) J=some r) b rfl (fun bu M aD b=>?_) (fun aD b=>?_)
       ·rw [tj] at b;refine sk aC (ar fun bv aE=>Y2 ?_);obtain⟨bw,aF,b⟩:=vO M b;refine S (ix Z7.c K aF) (Y4 ?_);refine bx 10 _ rfl (kl [3,4,6,8,15,16,17,22,23,24,29,30,31]) ?_;refine Y5 ?_;obtain⟨bz,aG,b⟩:=qO rfl b;refine S (dy aG) (Y2 ?_);obtain⟨bA,aH,b⟩:=qO rfl b;refine S (dy aH) ?_;obtain⟨bB,aI,b⟩:=qO rfl b;refine S (dy aI) (Y2 ?_);obtain⟨bC,aK,b⟩:=qO rfl b
        refine S (dy aK) ?_;obtain⟨bE,aL,b⟩:=qO rfl b;refine S (dy aL) ?_;obtain⟨aM,aP,b⟩:=qO rfl b;refine sH (bS rfl rfl (MT (gT:=gT) (oT:=oT) aP _ aA aA aA (by assumption))) rfl ?_;refine Y1 ?_;refine aE _ ?_;refine Y4 ?_;exact aB _ ((K+1),aM) wA b (dl M)
       rw [tj] at b;have b:=ku ax b;refine ah.exit ?_;obtain⟨bF,aQ,b⟩:=gM b;exact av _ L wA (ku aQ b:)
      rintro aU b;refine Y4 ?_;exact ao _ ((C+1),aU) wA b (dl I)
     rw [qP] at b;have b:=ku am b;refine ah.exit ?_;obtain⟨bG,aV,b⟩:=gM b;exact al _ E wA (ku aV b:)
    rintro aW b;refine Y3 ?_;refine aT Z7.c g.ay fun bI=>Y3 ?_;obtain⟨N,aX,b⟩:=cM b;refine bD (tl [3,4,6,15,16,17,52,53]) (fun(z:Nat×(Sl Z5))=>[(54,vi z.1)]) (fun z=>((tS H f 2 z.2).set k (some (.cells ([Sl.d 2 Z5.c (some f) z.2]))))) (fun z=>g.ay.l.length-z.1) (fun z=>Option.bind (qM a0 g (g.ay.l.drop z.1) z.2) N=some r) (0,aW) b wA ?_
    rintro ⟨O,u⟩ b bJ aY;refine Y3 ?_;refine ar fun bK aZ=>?_;refine ah.bL (fun l=>Option.bind (qM a0 g l u) N=some r) b rfl (fun bM P a1 b=>?_) (fun a1 b=>?_)
    ·rw [qM] at b;refine sk aZ (ar fun bN a2=>Y2 ?_);obtain⟨bO,a3,b⟩:=vO P b;refine S (ix Z7.c O a3) (Y4 ?_);refine bx 12 _ rfl (kl [3,4,6,15,16,17,52,53,54]) ?_;refine Y5 ?_;obtain⟨bP,a4,b⟩:=qO rfl b;refine S (dy a4) (Y2 ?_);obtain⟨bQ,a5,b⟩:=qO rfl b;refine S (dy a5) ?_;obtain⟨a6,a7,b⟩:=qO rfl b
     refine sH (bS rfl rfl (MT (gT:=gT) (oT:=oT) a7 _ aA aA aA (by assumption))) rfl ?_;refine Y1 ?_;refine a2 _ ?_;refine Y4 ?_;exact aY _ ((O+1),a6) wA b (dl P)
    rw [qM] at b;have b:=ku aX b;refine ah.exit ?_;obtain⟨bR,a8,b⟩:=gM b;exact ae _ u wA (ku a8 b:)
   rintro y b;refine Y4 ?_;exact aa _ ((s+1),y) wA b (dl G)
  rw [pG] at b;have b:=ku Z b;refine ah.exit ?_;obtain⟨bT,a9,b⟩:=bW b;exact Y _ v wA (ku a9 b:)
 rintro bU b;refine Y4 ?_;refine ah.dV 2 rfl ?_;refine ry ?_;obtain rfl:=oJ b;refine bH.b9 H rfl ⟨rfl,rfl⟩ ?_;intro Q bV R;have bX:Q≠f:=fun m=>by subst m; simp_all [af.set]
 have bY:Q≠k:=fun m=>by subst m; simp_all [af.set]
 rw [<- R];simp only [af.set] at R ⊢;(repeat' split)<;>simp_all
def zm (a0:ai):Option (Sl Z5):=(yY a0 true).bind fun b=>bif (decide ((0:Int)<((b.l.length:Nat):Int))) then(some b) else((ze a0).bind fun f=>(zn a0).bind fun g=>(bf 24 f g).bind fun j=>some j)
def CD (a0:ai):Option (Sl Z5):=zm a0
theorem U0 (a0:ai):CD a0=zm a0:=rfl
theorem W1 {a0 oT gT r}(b:CD a0=some r) (H:af) (u:H gT=some oT) (v:iq Tryz.prog oT):AC Tryz.prog 22 [.agg (ai.c a0)] H (RT (.a (.d (Sl.d 2 Z5.c none r))) H):=by
 unfold CD zm at b;refine AC.oW 15 [.tmp 2] Tryz.call22 Tryz.func22 ?_;refine Y2 ?_;refine s0 (di (k':=2) rfl) rfl ?_;refine Y1 ?_;refine ar fun w g=>Y2 ?_;obtain⟨j,k,b⟩:=qT rfl b;refine Sc rfl rfl (Wm k) (Y4 ?_);refine aT Z5.c j fun y=>Y2 ?_;refine cE b (fun l b=>?_) (fun l b=>?_)
 ·refine Y4 ?_;exact rt b
 refine sk g (ah.tok 2 fun m z=>?_);have B:m≠gT:=fun p=>by subst p; simp_all
 refine Y2 ?_;obtain⟨C,q,b⟩:=qT rfl b;refine aN.sH (bS rfl rfl (WD q _ aA)) rfl ?_;refine Y1 ?_;obtain⟨E,s,b⟩:=qT rfl b;refine aN.s0 (eY rfl rfl (W0 (gT:=gT) (oT:=oT) s _ aA (by assumption))) rfl ?_;obtain⟨F,t,b⟩:=qT rfl b;refine aN.sH (iM (f:=Z5.c) (TK rfl) rfl (TK rfl) (TK rfl) ⟨_,rfl⟩ rfl rfl (by decide) rfl rfl rfl rfl aA rfl t) rfl ?_;refine Y2 ?_
 refine ah.dV 2 rfl ?_;refine ry ?_;obtain rfl:=oJ b;refine bH.b9 H rfl ⟨rfl,rfl⟩ ?_;exact sy
def pM (a0:Z7):Bool:=on (iP a0.ax) fun x3=>((!x3)||a0.b_)
theorem MU {a0 r}(b:some (pM a0)=some r) (H:af) :AC Tryz.prog 117 [.agg (Z7.c a0)] H (RT (.a (.d (.bool r))) H):=by
 unfold pM at b;refine AC.oW 11 [.tmp 2] Tryz.call117 Tryz.func117 ?_;refine Y7 ?_;obtain⟨x3,f,b⟩:=vP rfl b;refine Sc rfl rfl (tQ f) (Y3 ?_);refine Gk 8 ?_;refine Y3 ?_;exact rt b
def FT  :Option Int:=some (-1:Int)
def CE (a0:(Sl Z7)) (f:(Z7->Option Bool)) :Nat->Nat->Option Int
 | 0,_=>none
 | g+1,b=>bif (decide (((b:Nat):Int)<((a0.l.length:Nat):Int))) then((a0.l[b]?).bind fun j=>(f j).bind fun k=>bif k then(some ((b:Nat):Int)) else((CE a0 f g) (b+1))) else(FT   )
def CF (a0:(Sl Z7)) (b:(Z7->Option Bool)):Option Int:=CE a0 b (a0.l.length+1) 0
theorem MV {a0 g w0 j r}(b:CF a0 g=some r) (H:af) (p:∀k r,g k=some r->gL Tryz.prog j [.agg (Z7.c k)] H fun v h'=>v=.a (.d (.bool r))/\h'=H):AC Tryz.prog 149 [.d (Sl.d 10 Z7.c w0 a0),.d j] H (RT (.a (.d (.int .i64 r))) H):=by
 unfold CF at b;refine AC.oW 19 [.tmp 4] Tryz.call149 Tryz.func149 ?_;refine Y3 ?_;refine aR kN (fun(z:Unit)=>[]) (fun z=>H) (fun z=>FT =some r) ?_ ?_
 ·intro E q;refine Y2 ?_;refine aT Z7.c a0 fun F=>Y3 ?_;refine bD (tl [0,1,7]) (fun(z:Nat×Nat)=>[(8,vi z.2)]) (fun z=>H) (fun z=>z.1) (fun z=>CE a0 g z.1 z.2=some r) ((a0.l.length+1),0) b wA ?_;rintro ⟨f,m⟩ b G s;cases f with
  | zero=>cases b
  | succ f =>
    rw [CE] at b;refine Y3 ?_;refine ar fun I t=>?_;refine cE b (fun u b=>?_) (fun u b=>?_)
    ·refine sk t (ar fun J w=>Y9 ?_);obtain⟨K,y,b⟩:=bO b;refine S (ix Z7.c m y) (Y1 ?_);obtain⟨L,B,b⟩:=bO b;refine s0 (lZ rfl rfl (p _ _ B)) rfl ?_;refine Y1 ?_;refine cE b (fun C b=>?_) (fun C b=>?_)
     ·refine Y4 ?_;exact rt b
     refine sk w (Y4 ?_);exact s _ (f,(m+1)) wA b (nS _)
    refine ah.exit ?_;exact q _ () wA b
 rintro _ b;unfold FT at b;refine Y3 ?_;exact rt b
def MW (a0:(Sl Z7)) (b:(Z7->Option Bool)):Option Bool:=(CF a0 b).bind fun x3=>some (decide ((0:Int)<=x3))
theorem W2 {a0 a1 w0 f r}(b:MW a0 a1=some r) (H:af) (j:∀g r,a1 g=some r->gL Tryz.prog f [.agg (Z7.c g)] H fun v h'=>v=.a (.d (.bool r))/\h'=H):AC Tryz.prog 115 [.d (Sl.d 10 Z7.c w0 a0),.d f] H (RT (.a (.d (.bool r))) H):=by
 unfold MW at b;refine AC.oW 9 [.tmp 4] Tryz.call115 Tryz.func115 ?_;refine Y6 ?_;obtain⟨x3,k,b⟩:=bO b;refine s0 (eY rfl rfl (MV k _ j)) rfl ?_;refine Y3 ?_;exact rt b
def FU (a0:(Sl Z7))  (b:Int):Option (Sl Z7):=(lY a0 (some b) none).bind fun f=>none
def FV (b:Int) (f:Int->Int->Option (Sl Z7)) (g:Int):Option (Sl Z7):=(cF b (1:Int)).bind fun j=>f g j
def zR (a0:(Sl Z7)) (g:(Z7->Option Bool)) :Nat->Int->Int->Option (Sl Z7)
 | 0,_,_=>none
 | j+1,b,f=>bif (decide (f<((a0.l.length:Nat):Int))) then((dh a0.l f).bind fun k=>(g k).bind fun m=>bif (!m) then((dh a0.l b).bind fun p=>none) else(FV f ((zR a0 g j)) b)) else(FU a0  b)
def MX (a0:(Sl Z7)) (b:(Z7->Option Bool)):Option (Sl Z7):=(CF a0 b).bind fun x3=>bif (decide (x3=(-1:Int))) then(some a0) else((cF x3 (1:Int)).bind fun f=>zR a0 b F0 x3 f)
theorem W3 {a0 a1 w0 j r}(b:MX a0 a1=some r) (H:af) (k:∀m r,a1 m=some r->gL Tryz.prog j [.agg (Z7.c m)] H fun v h'=>v=.a (.d (.bool r))/\h'=H):AC Tryz.prog 118 [.d (Sl.d 10 Z7.c w0 a0),.d j] H (RT (.a (.d (Sl.d 10 Z7.c none r))) H):=by
 unfold MX at b;refine AC.oW 42 [.tmp 4] Tryz.call118 Tryz.func118 ?_;refine Y1 ?_;refine s0 (di (k':=10) rfl) rfl ?_;refine Y4 ?_;obtain⟨x3,q,b⟩:=bO b;refine s0 (eY rfl rfl (MV q _ k)) rfl ?_;refine Y2 ?_;refine ar fun R s=>Y4 ?_;refine cE b (fun t b=>?_) (fun t b=>?_)
 ·refine Y4 ?_;refine ah.dV 4 rfl ?_;exact rt b
 refine sk s (aR (tl [0]) (fun(z:Int)=>[(5,.a (.d (.int .i64 z)))]) (fun z=>H) (fun z=>FU a0 z=some r) ?_ ?_)
 ·intro U u;refine Y2 ?_;obtain⟨w,y,b⟩:=bO b;refine S (eC y) (Y3 ?_);refine bD (tl [0,1]) (fun(z:Nat×Int×Int)=>[(5,.a (.d (.int .i64 z.2.1))),(6,.a (.d (.int .i64 z.2.2)))]) (fun z=>H) (fun z=>z.1) (fun z=>zR a0 a1 z.1 z.2.1 z.2.2=some r) (F0,x3,w) b wA ?_;rintro ⟨g,p,B⟩ b W C;cases g with
  | zero=>cases b
  | succ g =>
    rw [zR] at b;refine ar fun X E=>Y3 ?_;refine aT Z7.c a0 fun Y=>Y2 ?_;refine cE b (fun F b=>?_) (fun F b=>?_)
    ·refine sk E (aR (tl [0,1,6]) (fun(z:Int)=>[(5,.a (.d (.int .i64 z)))]) (fun z=>H) (fun z=>FV B ((zR a0 a1 g)) z=some r) ?_ ?_)
     ·intro Z G;refine Y4 ?_;obtain⟨aa,I,b⟩:=bO b;refine s0 (iZ (f:=Z7.c) (TK rfl) rfl (TK rfl) rfl rfl rfl I) rfl ?_;refine Y4 ?_;refine bx 7 _ rfl (kl [0,1,5,6]) ?_;refine Y3 ?_;obtain⟨ab,J,b⟩:=bO b;refine s0 (lZ rfl rfl (k _ _ J)) rfl ?_;refine Y2 ?_;refine cE b (fun K b=>?_) (fun K b=>?_)
      ·refine ar fun ad ae=>Y4 ?_;obtain⟨ag,L,b⟩:=bO b;refine s0 (iZ (f:=Z7.c) (TK rfl) rfl (TK rfl) rfl rfl rfl L) rfl ?_;cases b
      refine ah.skip ?_;exact G _ p wA b
     rintro M b;unfold FV at b;refine Y2 ?_;obtain⟨N,O,b⟩:=bO b;refine S (eC O) (Y2 ?_);exact C _ (g,M,N) wA b (nS _)
    refine ah.exit ?_;exact u _ p wA b
 rintro P b;unfold FU at b;refine ar fun ai aj=>Y3 ?_;obtain⟨ak,Q,b⟩:=bO b;refine s0 (lg (f:=Z7.c) (l:=(some P)) (r:=none) (TK rfl) rfl (TK rfl) rfl rfl rfl trivial Q) rfl ?_;cases b
def FW (a0:(Sl Z8))  (b:Int):Option (Sl Z8):=(lY a0 (some b) none).bind fun f=>none
def FX (b:Int) (f:Int->Int->Option (Sl Z8)) (g:Int):Option (Sl Z8):=(cF b (1:Int)).bind fun j=>f g j
def zS (a0:(Sl Z8)) (g:(Z8->Option Bool)) :Nat->Int->Int->Option (Sl Z8)
 | 0,_,_=>none
 | j+1,b,f=>bif (decide (f<((a0.l.length:Nat):Int))) then((dh a0.l f).bind fun k=>(g k).bind fun m=>bif (!m) then((dh a0.l b).bind fun p=>none) else(FX f ((zS a0 g j)) b)) else(FW a0  b)
def MY (a0:(Sl Z8)) (b:(Z8->Option Bool)):Option (Sl Z8):=(xz a0 b).bind fun x3=>bif (decide (x3=(-1:Int))) then(some a0) else((cF x3 (1:Int)).bind fun f=>zS a0 b F0 x3 f)
theorem W4 {a0 a1 w0 j r}(b:MY a0 a1=some r) (H:af) (k:∀m r,a1 m=some r->gL Tryz.prog j [.agg (Z8.c m)] H fun v h'=>v=.a (.d (.bool r))/\h'=H):AC Tryz.prog 75 [.d (Sl.d 2 Z8.c w0 a0),.d j] H (RT (.a (.d (Sl.d 2 Z8.c none r))) H):=by
 unfold MY at b;refine AC.oW 42 [.tmp 4] Tryz.call75 Tryz.func75 ?_;refine Y1 ?_;refine s0 (di (k':=2) rfl) rfl ?_;refine Y4 ?_;obtain⟨x3,q,b⟩:=bO b;refine s0 (eY rfl rfl (MN q _ k)) rfl ?_;refine Y2 ?_;refine ar fun R s=>Y4 ?_;refine cE b (fun t b=>?_) (fun t b=>?_)
 ·refine Y4 ?_;refine ah.dV 4 rfl ?_;exact rt b
 refine sk s (aR (tl [0]) (fun(z:Int)=>[(5,.a (.d (.int .i64 z)))]) (fun z=>H) (fun z=>FW a0 z=some r) ?_ ?_)
 ·intro U u;refine Y2 ?_;obtain⟨w,y,b⟩:=bO b;refine S (eC y) (Y3 ?_);refine bD (tl [0,1]) (fun(z:Nat×Int×Int)=>[(5,.a (.d (.int .i64 z.2.1))),(6,.a (.d (.int .i64 z.2.2)))]) (fun z=>H) (fun z=>z.1) (fun z=>zS a0 a1 z.1 z.2.1 z.2.2=some r) (F0,x3,w) b wA ?_;rintro ⟨g,p,B⟩ b W C;cases g with
  | zero=>cases b
  | succ g =>
    rw [zS] at b;refine ar fun X E=>Y3 ?_;refine aT Z8.c a0 fun Y=>Y2 ?_;refine cE b (fun F b=>?_) (fun F b=>?_)
    ·refine sk E (aR (tl [0,1,6]) (fun(z:Int)=>[(5,.a (.d (.int .i64 z)))]) (fun z=>H) (fun z=>FX B ((zS a0 a1 g)) z=some r) ?_ ?_)
     ·intro Z G;refine Y4 ?_;obtain⟨aa,I,b⟩:=bO b;refine s0 (iZ (f:=Z8.c) (TK rfl) rfl (TK rfl) rfl rfl rfl I) rfl ?_;refine Y4 ?_;refine bx 7 _ rfl (kl [0,1,5,6]) ?_;refine Y3 ?_;obtain⟨ab,J,b⟩:=bO b;refine s0 (lZ rfl rfl (k _ _ J)) rfl ?_;refine Y2 ?_;refine cE b (fun K b=>?_) (fun K b=>?_)
      ·refine ar fun ad ae=>Y4 ?_;obtain⟨ag,L,b⟩:=bO b;refine s0 (iZ (f:=Z8.c) (TK rfl) rfl (TK rfl) rfl rfl rfl L) rfl ?_;cases b
      refine ah.skip ?_;exact G _ p wA b
     rintro M b;unfold FX at b;refine Y2 ?_;obtain⟨N,O,b⟩:=bO b;refine S (eC O) (Y2 ?_);exact C _ (g,M,N) wA b (nS _)
    refine ah.exit ?_;exact u _ p wA b
 rintro P b;unfold FW at b;refine ar fun ai aj=>Y3 ?_;obtain⟨ak,Q,b⟩:=bO b;refine s0 (lg (f:=Z8.c) (l:=(some P)) (r:=none) (TK rfl) rfl (TK rfl) rfl rfl rfl trivial Q) rfl ?_;cases b
def FY (a0:(Sl Bs))  (b:Int):Option (Sl Bs):=(lY a0 (some b) none).bind fun f=>none
def FZ (b:Int) (f:Int->Int->Option (Sl Bs)) (g:Int):Option (Sl Bs):=(cF b (1:Int)).bind fun j=>f g j
def zT (a0:(Sl Bs)) (g:(Bs->Option Bool)) :Nat->Int->Int->Option (Sl Bs)
 | 0,_,_=>none
 | j+1,b,f=>bif (decide (f<((a0.l.length:Nat):Int))) then((dh a0.l f).bind fun k=>(g k).bind fun m=>bif (!m) then((dh a0.l b).bind fun p=>none) else(FZ f ((zT a0 g j)) b)) else(FY a0  b)
def MZ (a0:(Sl Bs)) (b:(Bs->Option Bool)):Option (Sl Bs):=(xu a0 b).bind fun x3=>bif (decide (x3=(-1:Int))) then(some a0) else((cF x3 (1:Int)).bind fun f=>zT a0 b F0 x3 f)
theorem W5 {a0 a1 w0 j r}(b:MZ a0 a1=some r) (H:af) (k:∀m r,a1 m=some r->gL Tryz.prog j [.d (.str m)] H fun v h'=>v=.a (.d (.bool r))/\h'=H):AC Tryz.prog 77 [.d (Sl.d 1 aB w0 a0),.d j] H (RT (.a (.d (Sl.d 1 aB none r))) H):=by
 unfold MZ at b;refine AC.oW 42 [.tmp 4] Tryz.call77 Tryz.func77 ?_;refine Y1 ?_;refine s0 (di (k':=1) rfl) rfl ?_;refine Y4 ?_;obtain⟨x3,q,b⟩:=bO b;refine s0 (eY rfl rfl (MD q _ k)) rfl ?_;refine Y2 ?_;refine ar fun R s=>Y4 ?_;refine cE b (fun t b=>?_) (fun t b=>?_)
 ·refine Y4 ?_;refine ah.dV 4 rfl ?_;exact rt b
 refine sk s (aR (tl [0]) (fun(z:Int)=>[(5,.a (.d (.int .i64 z)))]) (fun z=>H) (fun z=>FY a0 z=some r) ?_ ?_)
 ·intro U u;refine Y2 ?_;obtain⟨w,y,b⟩:=bO b;refine S (eC y) (Y3 ?_);refine bD (tl [0,1]) (fun(z:Nat×Int×Int)=>[(5,.a (.d (.int .i64 z.2.1))),(6,.a (.d (.int .i64 z.2.2)))]) (fun z=>H) (fun z=>z.1) (fun z=>zT a0 a1 z.1 z.2.1 z.2.2=some r) (F0,x3,w) b wA ?_;rintro ⟨g,p,B⟩ b W C;cases g with
  | zero=>cases b
  | succ g =>
    rw [zT] at b;refine ar fun X E=>Y3 ?_;refine aT aB a0 fun Y=>Y2 ?_;refine cE b (fun F b=>?_) (fun F b=>?_)
    ·refine sk E (aR (tl [0,1,6]) (fun(z:Int)=>[(5,.a (.d (.int .i64 z)))]) (fun z=>H) (fun z=>FZ B ((zT a0 a1 g)) z=some r) ?_ ?_)
     ·intro Z G;refine Y4 ?_;obtain⟨aa,I,b⟩:=bO b;refine s0 (iZ (f:=aB) (TK rfl) rfl (TK rfl) rfl rfl rfl I) rfl ?_;refine Y6 ?_;obtain⟨ab,J,b⟩:=bO b;refine s0 (lZ rfl rfl (k _ _ J)) rfl ?_;refine Y2 ?_;refine cE b (fun K b=>?_) (fun K b=>?_)
      ·refine ar fun ad ae=>Y4 ?_;obtain⟨ag,L,b⟩:=bO b;refine s0 (iZ (f:=aB) (TK rfl) rfl (TK rfl) rfl rfl rfl L) rfl ?_;cases b
      refine ah.skip ?_;exact G _ p wA b
     rintro M b;unfold FZ at b;refine Y2 ?_;obtain⟨N,O,b⟩:=bO b;refine S (eC O) (Y2 ?_);exact C _ (g,M,N) wA b (nS _)
    refine ah.exit ?_;exact u _ p wA b
 rintro P b;unfold FY at b;refine ar fun ai aj=>Y3 ?_;obtain⟨ak,Q,b⟩:=bO b;refine s0 (lg (f:=aB) (l:=(some P)) (r:=none) (TK rfl) rfl (TK rfl) rfl rfl rfl trivial Q) rfl ?_;cases b
end Go.Proofs
