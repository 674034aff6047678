import Derived.Test.YtbghdiaepdaaeaaGreatDoorV7
set_option maxRecDepth 100000
set_option maxHeartbeats 2000000
set_option linter.unusedVariables false
set_option linter.unusedSimpArgs false
namespace Go.Proofs
open Go Go.Ab
open aQ ar ag aS dY
variable {ak:bf}
def DX  (b:(Sl aj)) (f:Z3):Option ((Sl aj)×Int×Z3):=some (b,(0:Int),f)
def DY (b:Nat) (f:(Sl aj)->Nat->Z3->Option ((Sl aj)×Int×Z3)) (g:(Sl aj)) (i:Z3):Option ((Sl aj)×Int×Z3):=f g (b+1) i
def yG (q:Int) (i:Nat) (j:Bs) (b:(Sl Z2)) (k:(Sl aj)->Nat->Z3->Option ((Sl aj)×Int×Z3)) (m:Z3->Z2->Bs->Int->Option (aj×Int×Z3)):Nat->(Sl aj)->Int->Z3->Option ((Sl aj)×Int×Z3)
 | 0,_,_,_=>none
 | r+1,o,f,p=>bif (decide (f<((b.l.length:Nat):Int))) then((bV b.l f).bind fun s=>(m p s j q).bind fun g=>bif (!decide (g.2.1=(0:Int))) then(none) else((aZ 160 o (⟨false,[g.1]⟩:Sl aj)).bind fun t=>(bG f (1:Int)).bind fun u=>(yG q i j b k m r) t u g.2.2)) else(DY i k o p)
def tT (m:(Sl Z1)) (o:Int) (f:(Sl Bs)) (i:Z3->Z2->Bs->Int->Option (aj×Int×Z3)):Nat->(Sl aj)->Nat->Z3->Option ((Sl aj)×Int×Z3)
 | 0,_,_,_=>none
 | p+1,j,g,b=>bif (decide (((g:Nat):Int)<((f.l.length:Nat):Int))) then((f.l[g]?).bind fun k=>(DI b.Fd b.Fq k m b.dD).bind fun q=>yG o g k q ((tT m o f i p)) i F0 j (0:Int) b) else(DX   j b)
def DZ (g:Z3) (o:Int) (i:Int) (b:aj) (j:Z3->(Sl Z1)->Bs->Int->Option ((Sl aj)×Int×Z3)) (k:(Sl Z1)):Option (aj×Int×Z3):=(bG o (1:Int)).bind fun m=>(j (Z3.mk g.Fd g.Fq g.dD i) k b.aJ.ai m).bind fun f=>some ((aj.mk b.bF b.bR b.ai b.aO b.aJ b.eO b.dR f.1.nl f.1.l),f.2.1,f.2.2)
def D0 (b:Nat) (f:(Sl Z1)->Nat->Option (aj×Int×Z3)) (g:(Sl Z1)):Option (aj×Int×Z3):=f g (b+1)
def yH (g:Nat) (b:Z1) (i:(Sl Z1)->Nat->Option (aj×Int×Z3)):Nat->(Sl Z1)->Nat->Option (aj×Int×Z3)
 | 0,_,_=>none
 | k+1,j,f=>bif (decide (((f:Nat):Int)<((b.bN.fN.l.length:Nat):Int))) then((b.bN.fN.l[f]?).bind fun m=>(aZ 144 j (⟨false,[(Z1.mk m ([]:Bs))]⟩:Sl Z1)).bind fun o=>(yH g b i k) o (f+1)) else(D0 g i j)
def tU (o:Z3) (f:Z2) (p:Int) (g:Int) (i:aj) (j:Z3->(Sl Z1)->Bs->Int->Option ((Sl aj)×Int×Z3)):Nat->(Sl Z1)->Nat->Option (aj×Int×Z3)
 | 0,_,_=>none
 | q+1,k,b=>bif (decide (((b:Nat):Int)<((f.jS.l.length:Nat):Int))) then((f.jS.l[b]?).bind fun m=>yH b m ((tU o f p g i j q)) (m.bN.fN.l.length+1) k 0) else(DZ o p g i j k)
def D1 (j:Z3) (b:Z2) (k:Int) (f:Int) (g:Z3->(Sl Z1)->Bs->Int->Option ((Sl aj)×Int×Z3)) (m:aj) (i:aj):Option (aj×Int×Z3):=tU j b k f i g (b.jS.l.length+1) (Sl.nil:Sl Z1) 0
mutual
def mB:Nat->Z3->(Sl Z1)->Bs->Int->Option ((Sl aj)×Int×Z3)
 | 0,_,_,_,_=>none
 | n+1,b,g,i,j=>bif (decide (((g.l.length:Nat):Int)=(0:Int))) then(some ((Sl.nil:Sl aj),(0:Int),b)) else((qR b.Fd i).bind fun f=>tT g j f (pQ n) (f.l.length+1) (Sl.nil:Sl aj) 0 b)
def pQ:Nat->Z3->Z2->Bs->Int->Option (aj×Int×Z3)
 | 0,_,_,_,_=>none
 | n+1,m,b,g,r=>bif (decide ((24:Int)<r)) then(none) else((bG m.Fn (1:Int)).bind fun p=>bif (decide ((2048:Int)<p)) then(none) else((b.jS.l[0]?).bind fun f=>(xP ).bind fun i=>(DN b).bind fun j=>(DR b.jS).bind fun k=>bif (!(f.bN.ai==([95,95,116,121,112,101,110,97,109,101]:Bs))) then((qP m.Fd g).bind fun s=>(xS s.1 f.bN.ai).bind fun o=>(xM o.1.aJ.aK).bind fun t=>(DW m.Fd o.1.aO f.bN.aO m.dD).bind fun q=>bif (!decide (q.2=(0:Int))) then(none) else(D1 m b r p (mB n) aj.zero (aj.mk ((aj.mk b.bF g f.bN.ai (Sl.nil:Sl aD) i j k true ([])).bF) ((aj.mk b.bF g f.bN.ai (Sl.nil:Sl aD) i j k true ([])).bR) ((aj.mk b.bF g f.bN.ai (Sl.nil:Sl aD) i j k true ([])).ai) q.1 (az.mk o.1.aJ.ai t) ((aj.mk b.bF g f.bN.ai (Sl.nil:Sl aD) i j k true ([])).eO) ((aj.mk b.bF g f.bN.ai (Sl.nil:Sl aD) i j k true ([])).dR) ((aj.mk b.bF g f.bN.ai (Sl.nil:Sl aD) i j k true ([])).bE).nl ((aj.mk b.bF g f.bN.ai (Sl.nil:Sl aD) i j k true ([])).bE).l))) else(none)))
end
def yI (n:Nat):Prop:=∀{a0:Z3}{a1:(Sl Z1)}{a2:Bs}{a3:Int}{f:Option Nat}{b:Nat}{r:((Sl aj)×Int×Z3)},mB n a0 a1 a2 a3=some r->∀(H:ah) (g:H b=some (.cells (Z3.c a0))),AC Tryz.prog 58 [.d (.ptr b 0),.d (Sl.d 8 Z1.c f a1),.d (.str a2),.d (.int .i64 a3)] H fun v h'=>v=.cS [.d (Sl.d 9 aj.c none r.1),.d (.int .i64 r.2.1)]/\h'=(H.set b (some (.cells (Z3.c r.2.2))))
def yJ (n:Nat):Prop:=∀{a0:Z3}{a1:Z2}{a2:Bs}{a3:Int}  {b:Nat}{r:(aj×Int×Z3)},pQ n a0 a1 a2 a3=some r->∀(H:ah) (f:H b=some (.cells (Z3.c a0))),AC Tryz.prog 104 [.d (.ptr b 0),.agg (Z2.c a1),.d (.str a2),.d (.int .i64 a3)] H fun v h'=>v=.cS [.agg (aj.c r.1),.d (.int .i64 r.2.1)]/\h'=(H.set b (some (.cells (Z3.c r.2.2))))
theorem Ui (n:Nat) (aF:yI (ak:=ak) n) (O:yJ (ak:=ak) n):yI (ak:=ak) (n+1):=by
 intro y p aX q aG i r b H aH;rw [mB] at b;refine AC.oW 69 [.tmp 8,.tmp 9] Tryz.call58 Tryz.func58 ?_;refine ag.eS (h':=(H.set i (some (.cells (Z3.c y))))) (by funext n_; simp only [ah.set]; (repeat' split)<;>simp_all) ?_;refine ag.tok 9 fun g B=>?_;obtain⟨aJ,B⟩:=ah.gB B;refine af ?_;refine s0 (fK (k':=9) rfl) rfl ?_;refine S As (nil ?_)
 refine af (S As (nil ?_));refine ag.fU 10 9 g rfl aI ?_;refine ay fun P C=>?_;refine af (S Mv ?_);refine sLen (f:=Z1.c) (s:=p) (TK rfl) rfl rfl rfl rfl fun aK=>?_;refine S BI (nil ?_);refine cE b (fun Q b=>?_) (fun Q b=>?_)
 ·refine af ?_;refine s0 (fK (k':=9) rfl) rfl ?_;refine S As (nil ?_);refine ag.ret ?_;repeat (first|refine bK ?_|refine bL ?_)
  obtain rfl:=oJ b;refine bz.bJ (H.set i (some (.cells (Z3.c y)))) rfl ⟨rfl,rfl⟩ ?_;intro t R j;have U:t≠g:=fun u=>by subst u; simp_all [ah.set]
  rw [<- j];simp only [ah.set] at j ⊢
  (repeat' split)<;>simp_all
 refine sk C ?_;clear C P;refine aT kN (fun(z:(Sl aj)×Z3)=>[(10,.a (.d (Sl.d 9 aj.c (some g) z.1)))]) (fun z=>((H.set i (some (.cells (Z3.c z.2)))).set g (some (.tok 9 z.1.l.length)))) (fun z=>DX z.1 z.2=some r) ?_ ?_
 ·intro aL W;refine af (S Mv (S NP ?_));refine s0 (ct (TK rfl) rfl rfl (TK rfl) rfl rfl) rfl ?_;refine s0 (dr (TK rfl) rfl rfl aI rfl) rfl ?_;refine S Mv ?_;obtain⟨k,X,b⟩:=bO b;refine Sc rfl rfl (Io X) ?_;refine sLen (f:=aP) (s:=k) (TK rfl) rfl rfl rfl rfl fun aM=>?_;refine S Mv (nil ?_);refine block ?_;refine bx (TA 0 (TA 1 (TA 3 (TA 25 (TA 26 kN))))) (fun(z:Nat×(Sl aj)×Nat×Z3)=>[(10,.a (.d (Sl.d 9 aj.c (some g) z.2.1))),(27,.a (.d (.int .i64 ((z.2.2.1:Nat):Int))))]) (fun z=>((H.set i (some (.cells (Z3.c z.2.2.2)))).set g (some (.tok 9 z.2.1.l.length)))) (fun z=>z.1) (fun z=>tT p q k (pQ n) z.1 z.2.1 z.2.2.1 z.2.2.2=some r) ((k.l.length+1),(Sl.nil:Sl aj),0,y) b wA ?_
  rintro ⟨m,E,o,F⟩ b aN Y;try dsimp only at b
  cases m with
  | zero=>cases b
  | succ m =>
    rw [tT] at b;refine af (S BI (nil ?_));refine ay fun Z G=>?_;refine cE b (fun v b=>?_) (fun v b=>?_)
    ·try dsimp only at v
     have aO:=oD v;refine sk G ?_;clear G Z;refine aT (TA 0 (TA 1 (TA 3 (TA 25 (TA 26 (TA 27 kN)))))) (fun(z:(Sl aj)×Z3)=>[(10,.a (.d (Sl.d 9 aj.c (some g) z.1)))]) (fun z=>((H.set i (some (.cells (Z3.c z.2)))).set g (some (.tok 9 z.1.l.length)))) (fun z=>DY o ((tT p q k (pQ n) m)) z.1 z.2=some r) ?_ ?_
     ·intro aQ aa;refine block ?_;refine af ?_;obtain⟨ab,ad,b⟩:=bO b;refine S (ix aP o ad) (S Ld (S As (nil ?_)));refine ag.bY (Sd Mv (Sd NP ?_));refine au.s0 (ct (TK rfl) rfl rfl (TK rfl) rfl rfl) rfl ?_;refine au.s0 (dr (TK rfl) rfl rfl aI rfl) rfl ?_;refine Sd Mv (Sd NP ?_);refine au.s0 (ct (TK rfl) rfl rfl (TK rfl) rfl rfl) rfl ?_;refine au.s0 (dr (TK rfl) rfl rfl aI rfl) rfl ?_
      refine Sd Mv (Sd Mv (Sd Mv (Sd NP ?_)));refine au.s0 (ct (TK rfl) rfl rfl (TK rfl) rfl rfl) rfl ?_;refine au.s0 (dr (TK rfl) rfl rfl aI rfl) rfl ?_;obtain⟨I,ae,b⟩:=bO b;refine cq rfl rfl (Ub ae) ?_;refine au.s0 (cZ (f:=Z2.c) (s:=I) (TK rfl) rfl rfl rfl) rfl ?_;refine Sd Mv ?_;refine au.nil (by decide +kernel) ?_;refine block ?_;refine bx (TA 0 (TA 1 (TA 3 (TA 12 (TA 25 (TA 26 (TA 27 (TA 45 (TA 46 kN))))))))) (fun(z:Nat×(Sl aj)×Int×Z3)=>[(10,.a (.d (Sl.d 9 aj.c (some g) z.2.1))),(47,.a (.d (.int .i64 z.2.2.1)))]) (fun z=>((H.set i (some (.cells (Z3.c z.2.2.2)))).set g (some (.tok 9 z.2.1.l.length)))) (fun z=>z.1) (fun z=>yG q o ab I ((tT p q k (pQ n) m)) (pQ n) z.1 z.2.1 z.2.2.1 z.2.2.2=some r) (F0,E,(0:Int),F) b wA ?_
      rintro ⟨w,J,aR,ai⟩ b aU al;try dsimp only at b
      cases w with
      | zero=>cases b
      | succ w =>
        rw [yG] at b;refine af (S BI (nil ?_));refine ay fun an K=>?_;refine cE b (fun ao b=>?_) (fun ao b=>?_)
        ·refine sk K ?_;clear K an;refine ay fun ap L=>?_;refine block ?_;refine af ?_;obtain⟨aV,aq,b⟩:=bO b;refine s0 (fu (f:=Z2.c) (TK rfl) rfl (TK rfl) rfl rfl rfl aq) rfl ?_;refine S Ld ?_;refine Sl ?_;refine Sf ?_;refine nil ?_;refine bu 14 _ rfl (KA 0 (KA 1 (KA 3 (KA 10 (KA 12 (KA 25 (KA 26 (KA 27 (KA 45 (KA 46 (KA 47 aS.nil))))))))))) ?_;refine af (S Mv (S Ld (S Mv (S Mv ?_))))
         obtain⟨x,av,b⟩:=bO b;refine sH (de rfl rfl (O av _ aI)) rfl ?_;refine hq ((H.set i (some (.cells (Z3.c x.2.2)))).set g (some (.tok 9 J.l.length))) ?_;refine S Mv (S EX (S EX ?_));refine Sl ?_;refine Sf ?_;refine S As (nil ?_);refine bu 15 _ rfl (KA 0 (KA 1 (KA 3 (KA 10 (KA 12 (KA 16 (KA 25 (KA 26 (KA 27 (KA 45 (KA 46 (KA 47 aS.nil)))))))))))) ?_;refine ay fun aw M=>?_
         refine af (S Mv (S BI (nil ?_)));refine cE b (fun ax b=>?_) (fun ax b=>?_)
         ·cases b
         refine sk M ?_;clear M aw;refine region ?_;refine S Mv (S Ld (S BV ?_));obtain⟨N,az,b⟩:=bO b;refine SH (am aj.c (TK rfl) rfl (TK rfl) (TK rfl) az) ?_;refine hq ((H.set i (some (.cells (Z3.c x.2.2)))).set g (some (.tok 9 N.l.length))) ?_;refine S As (nil ?_);refine L _ ?_;clear L ap;refine region ?_;obtain⟨aA,aB,b⟩:=bO b;refine s0 (cI rfl rfl aB) rfl ?_
         refine S Mv (nil ?_);exact al _ (w,N,aA,x.2.2) wA b (nS _)
        refine ag.exit ?_;exact aa _ (J,ai) wA b
     rintro ⟨aC,aD⟩ b;try dsimp only at b
     unfold DY at b;refine region ?_;refine SI ?_;refine S Mv (nil ?_);exact Y _ (m,aC,(o+1),aD) wA b (nS _)
    refine ag.exit ?_;exact W _ (E,F) wA b
 rintro ⟨aW,aE⟩ b;try dsimp only at b
 unfold DX at b;refine af (S Mv (S As (S As (nil ?_))));refine ag.gb 8 rfl ?_;refine ag.ret ?_;repeat (first|refine bK ?_|refine bL ?_)
 obtain rfl:=oJ b;refine bz.bJ (H.set i (some (.cells (Z3.c aE)))) rfl ⟨rfl,rfl⟩ ?_;intro t R j;have U:t≠g:=fun u=>by subst u; simp_all [ah.set]
 rw [<- j];simp only [ah.set] at j ⊢
 (repeat' split)<;>simp_all
theorem Uj (n:Nat) (al:yI (ak:=ak) n) (a9:yJ (ak:=ak) n):yJ (ak:=ak) (n+1):=by
 intro q g p G  B r b H a';rw [pQ] at b;refine AC.oW 143 [.cell 8 52,.tmp 9] Tryz.call104 Tryz.func104 ?_;refine ag.eS (h':=(H.set B (some (.cells (Z3.c q))))) (by funext n_; simp only [ah.set]; (repeat' split)<;>simp_all) ?_;refine ag.tok 8 fun t O=>?_;obtain⟨ba,O⟩:=ah.gB O;refine af (S BX ?_);refine Sl ?_;refine S As (nil ?_);refine ay fun an P=>?_
 refine af (S Mv (S BI (nil ?_)));refine cE b (fun ao b=>?_) (fun ao b=>?_)
 ·cases b
 refine sk P ?_;clear P an;refine af (S Mv (S NP ?_));refine s0 (ct (TK rfl) rfl rfl (TK rfl) rfl rfl) rfl ?_;refine s0 (dr (TK rfl) rfl rfl aI rfl) rfl ?_;obtain⟨u,ap,b⟩:=bO b;refine s0 (cI rfl rfl ap) rfl ?_;refine S NP ?_;refine s0 (ct (TK rfl) rfl rfl (TK rfl) rfl rfl) rfl ?_;refine fT (mN (TK rfl) rfl rfl aI rfl (by repeat (first|exact cD.zero|apply cD.succ))) rfl rfl ?_
 refine hq ((H.set B (some (.cells (Z3.c (Z3.mk q.Fd q.Fq q.dD u))))).set t (some (.tok 8 0))) ?_;refine nil ?_;refine ay fun aq Q=>?_;refine af (S Mv (S NP ?_));refine s0 (ct (TK rfl) rfl rfl (TK rfl) rfl rfl) rfl ?_;refine s0 (dr (TK rfl) rfl rfl aI rfl) rfl ?_;refine S BI (nil ?_);refine cE b (fun av b=>?_) (fun av b=>?_)
 ·cases b
 refine sk Q ?_;clear Q aq;refine af (S Fv (S Ld ?_));obtain⟨i,aw,b⟩:=bO b;refine S (ix Z1.c 0 aw) (S Fv (S Ld ?_));refine Sl ?_;refine Sf ?_;refine nil ?_;refine bu 10 _ rfl (KA 0 (KA 2 (KA 3 (KA 5 (KA 8 aS.nil))))) ?_;refine ag.bY (Sd Fv (Sd Ld (Sd Mv (Sd Fv (Sd Ld ?_)))));obtain⟨k,ax,b⟩:=bO b;refine cq rfl rfl (Iv ax) ?_;refine Sd Ld ?_;obtain⟨m,aA,b⟩:=bO b
 refine cq rfl rfl (Uf aA) ?_;refine Sd Fv (Sd Ld ?_);obtain⟨o,aB,b⟩:=bO b;refine cq rfl rfl (Ug aB) ?_;refine Sd BU ?_;refine au.sB (TK rfl) rfl rfl ?_ (by repeat (first|exact bA.nil|apply bA.cons));refine au.dh (dH (TK rfl) rfl rfl rfl rfl rfl) ?_;refine au.nil (by decide +kernel) ?_;refine eD (TA 0 (TA 3 (TA 5 (TA 8 (TA 11 kN))))) (fun(z:aj×aj)=>[]) (fun z=>[aj.c z.1,aj.c z.2]) (fun z=>((H.set B (some (.cells (Z3.c (Z3.mk q.Fd q.Fq q.dD u))))).set t (some (.tok 8 0)))) (fun z=>D1 q g G u (mB n) z.1 z.2=some r) ?_ ?_
 ·intro bb aC;refine af (S Fv (S Ld (S BS (nil ?_))));refine cE b (fun aE b=>?_) (fun aE b=>?_)
  ·refine af (S Mv (S NP ?_));refine s0 (ct (TK rfl) rfl rfl (TK rfl) rfl rfl) rfl ?_;refine s0 (dr (TK rfl) rfl rfl aI rfl) rfl ?_;refine S Mv ?_;obtain⟨bc,aF,b⟩:=bO b;refine Sc rfl rfl (pq aF) ?_;refine S Mv (S EX (S EX ?_));refine Sl ?_;refine Sf ?_;refine S As (nil ?_);refine bu 12 _ rfl (KA 0 (KA 3 (KA 5 (KA 8 (KA 10 (KA 11 aS.nil)))))) ?_;refine af (S Ld (S Fv (S Ld ?_)))
   obtain⟨C,aG,b⟩:=bO b;refine Sc rfl rfl (Iz aG) ?_;refine S Mv (S EX (S EX ?_));refine Sl ?_;refine Sf ?_;refine S As (nil ?_);refine bu 14 _ rfl (KA 0 (KA 3 (KA 5 (KA 8 (KA 10 (KA 11 aS.nil)))))) ?_;refine ay fun aH R=>?_;refine ag.dc 1 (aj.cu (aj.mk g.bF p i.bN.ai (Sl.nil:Sl aD) k m o true ([]))) rfl (fun j w cs hh y=>by rw [<- aj.fM]; exact y) ?_
   refine ag.draw rfl ?_;refine Sd Fv (Sd Fv (Sd Ld (Sd Fv (Sd Fv (Sd Ld ?_)))));obtain⟨E,aK,b⟩:=bO b;refine cq rfl rfl (B6 aK) ?_;refine Sd BU (Sd FL ?_);refine au.dh (MM (xs':=aj.cu (aj.mk ((aj.mk g.bF p i.bN.ai (Sl.nil:Sl aD) k m o true ([])).bF) ((aj.mk g.bF p i.bN.ai (Sl.nil:Sl aD) k m o true ([])).bR) ((aj.mk g.bF p i.bN.ai (Sl.nil:Sl aD) k m o true ([])).ai) ((aj.mk g.bF p i.bN.ai (Sl.nil:Sl aD) k m o true ([])).aO) (az.mk C.1.aJ.ai E) ((aj.mk g.bF p i.bN.ai (Sl.nil:Sl aD) k m o true ([])).eO) ((aj.mk g.bF p i.bN.ai (Sl.nil:Sl aD) k m o true ([])).dR) ((aj.mk g.bF p i.bN.ai (Sl.nil:Sl aD) k m o true ([])).bE).nl ((aj.mk g.bF p i.bN.ai (Sl.nil:Sl aD) k m o true ([])).bE).l)) (TK rfl) rfl rfl rfl rfl (Nat.le_of_ble_eq_true rfl) rfl (by repeat (first|exact cD.zero|apply cD.succ))) ?_
   refine au.nil (by decide +kernel) ?_;refine R _ ?_;clear R aH;refine ag.dc 1 (aj.c (aj.mk ((aj.mk g.bF p i.bN.ai (Sl.nil:Sl aD) k m o true ([])).bF) ((aj.mk g.bF p i.bN.ai (Sl.nil:Sl aD) k m o true ([])).bR) ((aj.mk g.bF p i.bN.ai (Sl.nil:Sl aD) k m o true ([])).ai) ((aj.mk g.bF p i.bN.ai (Sl.nil:Sl aD) k m o true ([])).aO) (az.mk C.1.aJ.ai E) ((aj.mk g.bF p i.bN.ai (Sl.nil:Sl aD) k m o true ([])).eO) ((aj.mk g.bF p i.bN.ai (Sl.nil:Sl aD) k m o true ([])).dR) ((aj.mk g.bF p i.bN.ai (Sl.nil:Sl aD) k m o true ([])).bE).nl ((aj.mk g.bF p i.bN.ai (Sl.nil:Sl aD) k m o true ([])).bE).l)) rfl (fun j w cs hh y=>by rw [aj.fM]; exact y) ?_
   refine af (S As (nil ?_));refine ay fun aL U=>?_;refine ag.dc 1 (aj.cu (aj.mk ((aj.mk g.bF p i.bN.ai (Sl.nil:Sl aD) k m o true ([])).bF) ((aj.mk g.bF p i.bN.ai (Sl.nil:Sl aD) k m o true ([])).bR) ((aj.mk g.bF p i.bN.ai (Sl.nil:Sl aD) k m o true ([])).ai) ((aj.mk g.bF p i.bN.ai (Sl.nil:Sl aD) k m o true ([])).aO) (az.mk C.1.aJ.ai E) ((aj.mk g.bF p i.bN.ai (Sl.nil:Sl aD) k m o true ([])).eO) ((aj.mk g.bF p i.bN.ai (Sl.nil:Sl aD) k m o true ([])).dR) ((aj.mk g.bF p i.bN.ai (Sl.nil:Sl aD) k m o true ([])).bE).nl ((aj.mk g.bF p i.bN.ai (Sl.nil:Sl aD) k m o true ([])).bE).l)) rfl (fun j w cs hh y=>by rw [<- aj.fM]; exact y) ?_
   refine ag.draw rfl ?_;refine Sd Mv (Sd NP ?_);refine au.s0 (ct (TK rfl) rfl rfl (TK rfl) rfl rfl) rfl ?_;refine au.s0 (dr (TK rfl) rfl rfl aI rfl) rfl ?_;refine Sd Fv (Sd Ld (Sd Fv (Sd Ld (Sd Mv (Sd NP ?_)))));refine au.s0 (ct (TK rfl) rfl rfl (TK rfl) rfl rfl) rfl ?_;refine au.s0 (dr (TK rfl) rfl rfl aI rfl) rfl ?_;obtain⟨W,aM,b⟩:=bO b;refine cq rfl rfl (Uh aM) ?_
   refine Sd Mv (Sd EX (Sd EX (Sd FL ?_)));refine au.dh (ul (TK rfl) rfl rfl rfl rfl (by repeat (first|exact cD.zero|apply cD.succ)) (by repeat (first|exact cD.zero|apply cD.succ))) ?_;refine Sd As ?_;refine au.nil (by decide +kernel) ?_;refine U _ ?_;clear U aL;refine ag.dc 1 (aj.c (aj.mk ((aj.mk g.bF p i.bN.ai (Sl.nil:Sl aD) k m o true ([])).bF) ((aj.mk g.bF p i.bN.ai (Sl.nil:Sl aD) k m o true ([])).bR) ((aj.mk g.bF p i.bN.ai (Sl.nil:Sl aD) k m o true ([])).ai) W.1 (az.mk C.1.aJ.ai E) ((aj.mk g.bF p i.bN.ai (Sl.nil:Sl aD) k m o true ([])).eO) ((aj.mk g.bF p i.bN.ai (Sl.nil:Sl aD) k m o true ([])).dR) ((aj.mk g.bF p i.bN.ai (Sl.nil:Sl aD) k m o true ([])).bE).nl ((aj.mk g.bF p i.bN.ai (Sl.nil:Sl aD) k m o true ([])).bE).l)) rfl (fun j w cs hh y=>by rw [aj.fM]; exact y) ?_
   refine af (S Mv (S BI (nil ?_)));refine cE b (fun aN b=>?_) (fun aN b=>?_)
   ·cases b
   refine ag.skip ?_;exact aC _ (aj.zero,(aj.mk ((aj.mk g.bF p i.bN.ai (Sl.nil:Sl aD) k m o true ([])).bF) ((aj.mk g.bF p i.bN.ai (Sl.nil:Sl aD) k m o true ([])).bR) ((aj.mk g.bF p i.bN.ai (Sl.nil:Sl aD) k m o true ([])).ai) W.1 (az.mk C.1.aJ.ai E) ((aj.mk g.bF p i.bN.ai (Sl.nil:Sl aD) k m o true ([])).eO) ((aj.mk g.bF p i.bN.ai (Sl.nil:Sl aD) k m o true ([])).dR) ((aj.mk g.bF p i.bN.ai (Sl.nil:Sl aD) k m o true ([])).bE).nl ((aj.mk g.bF p i.bN.ai (Sl.nil:Sl aD) k m o true ([])).bE).l)) wA b
  cases b
 rintro ⟨bd,v⟩ b;try dsimp only at b
 unfold D1 at b;refine af (S As (nil ?_));refine ag.fU 17 8 t rfl aI ?_;refine aT (TA 0 (TA 3 (TA 8 (TA 11 kN)))) (fun(z:(Sl Z1))=>[(17,.a (.d (Sl.d 8 Z1.c (some t) z)))]) (fun z=>((H.set B (some (.cells (Z3.c (Z3.mk q.Fd q.Fq q.dD u))))).set t (some (.tok 8 z.l.length)))) (fun z=>DZ q G u v (mB n) z=some r) ?_ ?_
 ·intro be aP;refine af (S Fv (S Ld ?_));refine sLen (f:=Z1.c) (s:=g.jS) (TK rfl) rfl rfl rfl rfl fun bf=>?_;refine S Mv (nil ?_);refine block ?_;refine bx (TA 0 (TA 3 (TA 8 (TA 11 (TA 107 (TA 108 kN)))))) (fun(z:Nat×(Sl Z1)×Nat)=>[(17,.a (.d (Sl.d 8 Z1.c (some t) z.2.1))),(109,.a (.d (.int .i64 ((z.2.2:Nat):Int))))]) (fun z=>((H.set B (some (.cells (Z3.c (Z3.mk q.Fd q.Fq q.dD u))))).set t (some (.tok 8 z.2.1.l.length)))) (fun z=>z.1) (fun z=>tU q g G u v (mB n) z.1 z.2.1 z.2.2=some r) ((g.jS.l.length+1),(Sl.nil:Sl Z1),0) b wA ?_
  rintro ⟨F,X,I⟩ b bg aR;try dsimp only at b
  cases F with
  | zero=>cases b
  | succ F =>
    rw [tU] at b;refine af (S BI (nil ?_));refine ay fun aU Y=>?_;refine cE b (fun K b=>?_) (fun K b=>?_)
    ·try dsimp only at K
     have bh:=oD K;refine sk Y ?_;clear Y aU;refine aT (TA 0 (TA 3 (TA 8 (TA 11 (TA 107 (TA 108 (TA 109 kN))))))) (fun(z:(Sl Z1))=>[(17,.a (.d (Sl.d 8 Z1.c (some t) z)))]) (fun z=>((H.set B (some (.cells (Z3.c (Z3.mk q.Fd q.Fq q.dD u))))).set t (some (.tok 8 z.l.length)))) (fun z=>D0 I ((tU q g G u v (mB n) F)) z=some r) ?_ ?_
     ·intro bi aV;refine block ?_;refine af ?_;obtain⟨L,aW,b⟩:=bO b;refine S (ix Z1.c I aW) (S Ld ?_);refine Sl ?_;refine Sf ?_;refine nil ?_;refine bu 19 _ rfl (KA 0 (KA 3 (KA 8 (KA 11 (KA 17 (KA 107 (KA 108 (KA 109 aS.nil)))))))) ?_;refine af (S Fv (S Fv ?_));refine s0 (bS (TK rfl) rfl rfl (congrArg (fun x=>some (A.d x)) (a_.wU _))) rfl ?_;refine sLen (f:=a_.c) (s:=L.bN.fN) (TK rfl) rfl rfl rfl rfl fun bj=>?_
      refine S Mv (nil ?_);refine block ?_;refine bx (TA 0 (TA 3 (TA 8 (TA 11 (TA 107 (TA 108 (TA 109 (TA 115 (TA 116 kN))))))))) (fun(z:Nat×(Sl Z1)×Nat)=>[(17,.a (.d (Sl.d 8 Z1.c (some t) z.2.1))),(117,.a (.d (.int .i64 ((z.2.2:Nat):Int))))]) (fun z=>((H.set B (some (.cells (Z3.c (Z3.mk q.Fd q.Fq q.dD u))))).set t (some (.tok 8 z.2.1.l.length)))) (fun z=>z.1) (fun z=>yH I L ((tU q g G u v (mB n) F)) z.1 z.2.1 z.2.2=some r) ((L.bN.fN.l.length+1),X,0) b wA ?_
      rintro ⟨M,aX,Z⟩ b bk aY;try dsimp only at b
      cases M with
      | zero=>cases b
      | succ M =>
        rw [yH] at b;refine af (S BI (nil ?_));refine ay fun aZ aa=>?_;refine cE b (fun N b=>?_) (fun N b=>?_)
        ·try dsimp only at N
         have bl:=oD N;refine sk aa ?_;clear aa aZ;refine ay fun a0 ab=>?_;refine block ?_;refine af ?_;obtain⟨bm,a1,b⟩:=bO b;refine S (ix a_.c Z a1) (S Ld ?_);refine Sl ?_;refine Sf ?_;refine nil ?_;refine bu 21 _ rfl (KA 0 (KA 3 (KA 8 (KA 11 (KA 17 (KA 107 (KA 108 (KA 109 (KA 115 (KA 116 (KA 117 aS.nil))))))))))) ?_;refine region ?_;refine S Mv (S Ld (S BU (S BV ?_)))
         obtain⟨ad,a2,b⟩:=bO b;refine SH (am Z1.c (TK rfl) rfl (TK rfl) (TK rfl) a2) ?_;refine hq ((H.set B (some (.cells (Z3.c (Z3.mk q.Fd q.Fq q.dD u))))).set t (some (.tok 8 ad.l.length))) ?_;refine S As (nil ?_);refine ab _ ?_;clear ab a0;refine region ?_;refine SI ?_;refine S Mv (nil ?_);exact aY _ (M,ad,(Z+1)) wA b (nS _)
        refine ag.exit ?_;exact aV _ aX wA b
     rintro a3 b;try dsimp only at b
     unfold D0 at b;refine region ?_;refine SI ?_;refine S Mv (nil ?_);exact aR _ (F,a3,(I+1)) wA b (nS _)
    refine ag.exit ?_;exact aP _ X wA b
 rintro a4 b;try dsimp only at b
 unfold DZ at b;refine af (S Mv (S Mv (S FL (S FL (S LL (S Mv ?_))))));obtain⟨bn,a5,b⟩:=bO b;refine s0 (cI rfl rfl a5) rfl ?_;obtain⟨J,a6,b⟩:=bO b;refine sH (de rfl rfl (al a6 _ aI)) rfl ?_;refine hq ((H.set B (some (.cells (Z3.c J.2.2)))).set t (some (.tok 8 a4.l.length))) ?_;refine S Mv (S EX (S EX (S As (S As (nil ?_)))));refine af (S Mv (S FL ?_));refine aQ.dc 1 (aj.cu v) rfl (fun j w cs hh y=>by rw [<- aj.fM]; exact y) ?_
 refine Sf ?_;refine aQ.dc 1 (aj.c (aj.mk v.bF v.bR v.ai v.aO v.aJ v.eO v.dR J.1.nl J.1.l)) rfl (fun j w cs hh y=>by rw [aj.fM]; exact y) ?_;refine nil ?_;refine af (S LL (S Mv ?_));refine Sf ?_;refine S As (nil ?_);refine ag.ret ?_;repeat (first|refine bK ?_|refine bL ?_)
 obtain rfl:=oJ b;refine bz.bJ (H.set B (some (.cells (Z3.c J.2.2)))) rfl ⟨rfl,rfl⟩ ?_;intro a7 bo ae;have bp:a7≠t:=fun a8=>by subst a8; simp_all [ah.set]
 rw [<- ae];simp only [ah.set] at ae ⊢
 (repeat' split)<;>simp_all
theorem vI:∀(n:Nat),(yI (ak:=ak) n)/\(yJ (ak:=ak) n)
 | 0=>⟨fun b=>by first|cases b|(rw [mB] at b; cases b),fun b=>by first|cases b|(rw [pQ] at b; cases b)⟩
 | n+1=>⟨Ui n (vI n).1 (vI n).2,Uj n (vI n).1 (vI n).2⟩
def JC (a0:Z3) (a1:(Sl Z1)) (a2:Bs) (a3:Int):Option ((Sl aj)×Int×Z3):=mB F0 a0 a1 a2 a3
theorem Uk {f:Z3}{g:Sl Z1}{i:Bs}{j:Int}{k:Option Nat}{b:Nat}{r:((Sl aj)×Int×Z3)}(l:JC f g i j=some r) (H:ah) (m:H b=some (.cells (Z3.c f))):AC Tryz.prog 58 [.d (.ptr b 0),.d (Sl.d 8 Z1.c k g),.d (.str i),.d (.int .i64 j)] H fun v h'=>v=.cS [.d (Sl.d 9 aj.c none r.1),.d (.int .i64 r.2.1)]/\h'=(H.set b (some (.cells (Z3.c r.2.2)))):=(vI F0).1 l H m
def D2 (j:aq) (k:dK) (l:aa) (b:fZ)  (g:(Sl Z1)):Option (cK×Int):=(qN b.an).bind fun i=>(JC (Z3.mk j k l (0:Int)) g i (1:Int)).bind fun f=>bif (!decide (f.2.1=(0:Int))) then(none) else(some ((cK.mk b.an f.1),(0:Int)))
def yK (i:aq) (j:dK) (k:aa) (b:fZ) :Nat->(Sl Z1)->Nat->Option (cK×Int)
 | 0,_,_=>none
 | m+1,g,f=>bif (decide (((f:Nat):Int)<((b.fN.l.length:Nat):Int))) then((b.fN.l[f]?).bind fun o=>(aZ 144 g (⟨false,[(Z1.mk o ([]:Bs))]⟩:Sl Z1)).bind fun p=>(yK i j k b m) p (f+1)) else(D2 i j k b  g)
def yL (i:aq) (b:dK) (f:Int) (j:aa):Option (cK×Int):=bif ((decide (f<(0:Int)))||(decide (((b.iQ.l.length:Nat):Int)<=f))) then(some ((cK.mk (0:Int) (Sl.nil:Sl aj)),(2:Int))) else((bV b.iQ.l f).bind fun g=>yK i b j g (g.fN.l.length+1) (Sl.nil:Sl Z1) 0)
theorem JD {j:aq}{i:dK}{K:Int}{m:aa}{r:cK×Int}(b:yL j i K m=some r) (H:ah) :AC Tryz.prog 25 [.agg (aq.c j),.agg (dK.c i),.d (.int .i64 K),.agg (aa.c m)] H fun v h'=>v=.cS [.agg (cK.c r.1),.d (.int .i64 r.2)]/\h'=H:=by
 unfold yL at b;refine AC.oW 67 [.cell 8 27,.tmp 9] Tryz.call25 Tryz.func25 ?_;refine ag.tok 8 fun g w=>?_;refine af (S BX (S BX (S BX ?_)));refine Sl ?_;refine S As (nil ?_);refine ay fun L x=>?_;refine af (S Mv (S BI (S Mv (G0 Mv (G0 Fv ?_)))));refine G1 21 rfl Ld ?_;refine gC rfl rfl (fun hC=>aG (k:=22) rfl (cZ (f:=fZ.c) (s:=i.iQ) (TK rfl) rfl rfl rfl)) rfl ?_;refine G2 20 23 rfl rfl BI ?_
 refine S PO (nil ?_);refine cE b (fun M b=>?_) (fun M b=>?_)
 ·refine af (S BU ?_);refine Sf ?_;refine S As (nil ?_);refine ag.ret ?_;repeat (first|refine bK ?_|refine bL ?_)
  obtain rfl:=oJ b;refine bz.bJ H rfl ⟨rfl,rfl⟩ ?_
  first|exact ah.cG w|(simp only [ah.set_set]; exact ah.cG w)
 refine sk x ?_;clear x L;refine af (S Ld (S Ld (S Ld (S BU ?_))));refine sE (dW.rM rfl) rfl (fun _ _ _ ⟨o,y,N,O,P⟩=>?_); subst N O P;obtain⟨an,y⟩:=ah.gB y;refine hq ((H.set g (some (.tok 8 0))).set o (some (.cells (Z3.c (Z3.mk j i m (0:Int)))))) ?_;refine S As (nil ?_);refine af (S Fv (S Ld (S Mv ?_)));obtain⟨p,Q,b⟩:=bO b
 refine s0 (fu (f:=fZ.c) (TK rfl) rfl (TK rfl) rfl rfl rfl Q) rfl ?_;refine S Ld ?_;refine Sl ?_;refine Sf ?_;refine nil ?_;refine bu 11 _ rfl (KA 8 (KA 10 aS.nil)) ?_;refine af (S As (nil ?_));refine ag.fU 12 8 g rfl aI ?_;refine aT (TA 8 (TA 10 (TA 11 kN))) (fun(z:(Sl Z1))=>[(12,.a (.d (Sl.d 8 Z1.c (some g) z)))]) (fun z=>((H.set g (some (.tok 8 z.l.length))).set o (some (.cells (Z3.c (Z3.mk j i m (0:Int))))))) (fun z=>D2 j i m p z=some r) ?_ ?_
 ·intro ao R;refine af (S Fv (S Ld ?_));refine sLen (f:=a_.c) (s:=p.fN) (TK rfl) rfl rfl rfl rfl fun ap=>?_;refine S Mv (nil ?_);refine block ?_;refine bx (TA 8 (TA 10 (TA 11 (TA 38 (TA 39 kN))))) (fun(z:Nat×(Sl Z1)×Nat)=>[(12,.a (.d (Sl.d 8 Z1.c (some g) z.2.1))),(40,.a (.d (.int .i64 ((z.2.2:Nat):Int))))]) (fun z=>((H.set g (some (.tok 8 z.2.1.l.length))).set o (some (.cells (Z3.c (Z3.mk j i m (0:Int))))))) (fun z=>z.1) (fun z=>yK j i m p z.1 z.2.1 z.2.2=some r) ((p.fN.l.length+1),(Sl.nil:Sl Z1),0) b wA ?_
  rintro ⟨q,U,B⟩ b au W;try dsimp only at b
  cases q with
  | zero=>cases b
  | succ q =>
    rw [yK] at b;refine af (S BI (nil ?_));refine ay fun X C=>?_;refine cE b (fun t b=>?_) (fun t b=>?_)
    ·try dsimp only at t
     have av:=oD t;refine sk C ?_;clear C X;refine ay fun Y E=>?_;refine block ?_;refine af ?_;obtain⟨aw,Z,b⟩:=bO b;refine S (ix a_.c B Z) (S Ld ?_);refine Sl ?_;refine Sf ?_;refine nil ?_;refine bu 14 _ rfl (KA 8 (KA 10 (KA 11 (KA 12 (KA 38 (KA 39 (KA 40 aS.nil))))))) ?_;refine region ?_;refine S Mv (S Ld (S BU (S BV ?_)));obtain⟨F,ab,b⟩:=bO b
     refine SH (am Z1.c (TK rfl) rfl (TK rfl) (TK rfl) ab) ?_;refine hq ((H.set g (some (.tok 8 F.l.length))).set o (some (.cells (Z3.c (Z3.mk j i m (0:Int)))))) ?_;refine S As (nil ?_);refine E _ ?_;clear E Y;refine region ?_;refine SI ?_;refine S Mv (nil ?_);exact W _ (q,F,(B+1)) wA b (nS _)
    refine ag.exit ?_;exact R _ U wA b
 rintro ad b;try dsimp only at b
 unfold D2 at b;refine af (S Mv (S Mv (S Fv (S Ld ?_))));obtain⟨ax,ae,b⟩:=bO b;refine Sc rfl rfl (xJ ae) ?_;obtain⟨ai,aj,b⟩:=bO b;refine sH (de rfl rfl (Uk aj _ aI)) rfl ?_;refine hq ((H.set g (some (.tok 8 ad.l.length))).set o (some (.cells (Z3.c ai.2.2)))) ?_;refine S Mv (S EX (S EX (S As (S As (nil ?_)))));refine ay fun ak G=>?_
 refine af (S Mv (S BI (nil ?_)));refine cE b (fun al b=>?_) (fun al b=>?_)
 ·cases b
 refine sk G ?_;clear G ak;refine af (S Fv (S Ld (S Mv (S BU ?_))));refine Sf ?_;refine S As (nil ?_);refine ag.ret ?_;repeat (first|refine bK ?_|refine bL ?_)
 obtain rfl:=oJ b;refine bz.bJ H rfl ⟨rfl,rfl⟩ ?_;intro I az J;have aA:I≠g:=fun u=>by subst u; simp_all [ah.set]
 have aB:I≠o:=fun u=>by subst u; simp_all [ah.set]
 rw [<- J];simp only [ah.set] at J ⊢
 (repeat' split)<;>simp_all
section
variable [jO ak]
def uM :Option Bool:=(DC ).bind fun f=>(yL f.1 f.2.1 (0:Int) (aa.mk (6:Int) (0:Int) ([]:Bs) true ([]) (Sl.nil:Sl Bs))).bind fun b=>(yL f.1 f.2.1 (1:Int) (aa.mk (6:Int) (0:Int) ([]:Bs) true ([]) (Sl.nil:Sl Bs))).bind fun g=>aN ((((decide (b.2=(0:Int)))&&(decide (g.2=(2:Int))))&&(decide (b.1.an=(1:Int))))) (Jd b.1.bE f.2.2.bE) false fun i=>aN (((((decide (b.2=(0:Int)))&&(decide (g.2=(2:Int))))&&(decide (b.1.an=(1:Int))))&&i)) (Jo b.1.bE f.2.2.bE) false fun j=>aN ((((((decide (b.2=(0:Int)))&&(decide (g.2=(2:Int))))&&(decide (b.1.an=(1:Int))))&&i)&&j)) (qD f.1 f.2.2) false fun k=>aN (((((((decide (b.2=(0:Int)))&&(decide (g.2=(2:Int))))&&(decide (b.1.an=(1:Int))))&&i)&&j)&&k)) (qD f.1 (cK.mk (2:Int) (Sl.nil:Sl aj))) false fun l=>aN ((((((((decide (b.2=(0:Int)))&&(decide (g.2=(2:Int))))&&(decide (b.1.an=(1:Int))))&&i)&&j)&&k)&&(!l))) (Dd f.2.2.bE) (0:Int) fun m=>aN (((((((((decide (b.2=(0:Int)))&&(decide (g.2=(2:Int))))&&(decide (b.1.an=(1:Int))))&&i)&&j)&&k)&&(!l))&&(decide (m=(2:Int))))) (C8 f.2.2) ([]:Bs) fun o=>aN ((((((((((decide (b.2=(0:Int)))&&(decide (g.2=(2:Int))))&&(decide (b.1.an=(1:Int))))&&i)&&j)&&k)&&(!l))&&(decide (m=(2:Int))))&&((o==([113,117,101,114,121,32,123,32,81,117,101,114,121,46,109,101,58,32,109,101,32,123,32,85,115,101,114,46,110,97,109,101,58,32,110,97,109,101,32,125,32,125]:Bs))))) (DB f.2.2) dK.zero fun p=>aN ((((((((((decide (b.2=(0:Int)))&&(decide (g.2=(2:Int))))&&(decide (b.1.an=(1:Int))))&&i)&&j)&&k)&&(!l))&&(decide (m=(2:Int))))&&((o==([113,117,101,114,121,32,123,32,81,117,101,114,121,46,109,101,58,32,109,101,32,123,32,85,115,101,114,46,110,97,109,101,58,32,110,97,109,101,32,125,32,125]:Bs))))) (Du p f.2.1) false fun q=>some ((((((((((decide (b.2=(0:Int)))&&(decide (g.2=(2:Int))))&&(decide (b.1.an=(1:Int))))&&i)&&j)&&k)&&(!l))&&(decide (m=(2:Int))))&&((o==([113,117,101,114,121,32,123,32,81,117,101,114,121,46,109,101,58,32,109,101,32,123,32,85,115,101,114,46,110,97,109,101,58,32,110,97,109,101,32,125,32,125]:Bs))))&&q)
theorem JE  {oT:Ab.Obj}{gT:Nat}{r:Bool}(b:uM =some r) (H:ah) (u:H gT=some oT) (w:fP Tryz.prog oT):AC Tryz.prog 8 [] H fun v h'=>v=.a (.d (.bool r))/\h'=H:=by
 unfold uM at b;refine AC.oW 82 [.tmp 0] Tryz.call8 Tryz.func8 ?_;refine af (S As (nil ?_));refine af ?_;obtain⟨x,f,b⟩:=bO b;refine Sc rfl rfl (T4 f) ?_;refine S Mv (S EX (S EX (S EX ?_)));refine Sl ?_;refine Sl ?_;refine Sl ?_;refine Sf ?_;refine Sf ?_;refine Sf ?_;refine nil ?_;refine bu 3 _ rfl (KA 1 (KA 2 aS.nil)) ?_;refine bu 2 _ rfl (KA 1 (KA 3 aS.nil)) ?_
 refine bu 1 _ rfl (KA 2 (KA 3 aS.nil)) ?_;refine af (S BU ?_);refine Sl ?_;refine Sf ?_;refine nil ?_;refine bu 4 _ rfl (KA 1 (KA 2 (KA 3 aS.nil))) ?_;refine af (S Ld (S Ld (S Ld ?_)));obtain⟨y,g,b⟩:=bO b;refine Sc rfl rfl (JD g) ?_;refine S Mv (S EX (S EX ?_));refine Sl ?_;refine Sf ?_;refine S As (nil ?_);refine bu 5 _ rfl (KA 1 (KA 2 (KA 3 (KA 4 (KA 6 aS.nil))))) ?_
 refine af (S Ld (S Ld (S Ld ?_)));obtain⟨z,i,b⟩:=bO b;refine Sc rfl rfl (JD i) ?_;refine S Mv (S EX (S EX ?_));refine Sl ?_;refine Sf ?_;refine S As (nil ?_);refine bu 7 _ rfl (KA 1 (KA 2 (KA 3 (KA 5 (KA 6 (KA 8 aS.nil)))))) ?_;refine ag.bY (Sd Mv (Sd BI (Sd Mv (b_ Mv ?_))));refine cm 32 rfl BI ?_;refine Sd PA (Sd Mv (b_ Fv ?_));refine cm 36 rfl Ld ?_;refine cm 37 rfl BI ?_
 refine Sd PA (Sd Mv (b_ Fv ?_));refine cm 41 rfl Ld ?_;refine b_ Fv ?_;refine cm 43 rfl Ld ?_;obtain⟨B,j,b⟩:=gO b;refine oA 42 44 rfl rfl rfl rfl rfl rfl (fun hC=>Tr (j hC)) ?_;refine Sd PA (Sd Mv (b_ Fv ?_));refine cm 48 rfl Ld ?_;refine b_ Fv ?_;refine cm 50 rfl Ld ?_;obtain⟨C,l,b⟩:=gO b;refine oA 49 51 rfl rfl rfl rfl rfl rfl (fun hC=>TO (l hC)) ?_
 refine Sd PA (Sd Mv (b_ Ld (b_ Ld ?_)));obtain⟨E,m,b⟩:=gO b;refine au.gC rfl rfl (fun hC=>aG (k:=55) rfl (aG (k:=56) rfl (gN rfl rfl (CQ (gT:=gT) (oT:=oT) (m hC) _ aI (by assumption))))) rfl ?_;refine Sd PA (Sd Mv (b_ Ld (b_ BU ?_)));obtain⟨F,o,b⟩:=gO b;refine au.gC rfl rfl (fun hC=>aG (k:=60) rfl (aG (k:=61) rfl (gN rfl rfl (CQ (gT:=gT) (oT:=oT) (o hC) _ aI (by assumption))))) rfl ?_
 refine cm 62 rfl NB ?_;refine Sd PA (Sd Mv (b_ Fv ?_));refine cm 66 rfl Ld ?_;obtain⟨G,p,b⟩:=gO b;refine qs 67 rfl rfl rfl rfl rfl (fun hC=>TQ (p hC)) ?_;refine cm 68 rfl BI ?_;refine Sd PA (Sd Mv (b_ Ld ?_));obtain⟨I,q,b⟩:=gO b;refine au.gC rfl rfl (fun hC=>aG (k:=72) rfl (gN rfl rfl (TG (gT:=gT) (oT:=oT) (q hC) _ aI (by assumption)))) rfl ?_;refine cm 73 rfl BS ?_
 refine Sd PA (Sd Mv (b_ Ld ?_));obtain⟨J,s,b⟩:=gO b;refine qs 77 rfl rfl rfl rfl rfl (fun hC=>T0 (s hC)) ?_;refine b_ Ld ?_;obtain⟨K,t,b⟩:=gO b;refine oA 78 79 rfl rfl rfl rfl rfl rfl (fun hC=>TW (t hC)) ?_;refine Sd PA (Sd As ?_);refine au.nil (by decide +kernel) ?_;exact rt b
end
def oN (f:(Sl aj)->Option Int):List aj->Int->Option (Int)
 | [],b=>some b
 | g::i,b=>on (g) fun j=>(f j.bE).bind fun k=>(bG b k).bind fun l=>oN f (i) l
def jZ:Nat->(Sl aj)->Option Int
 | 0,_=>none
 | n+1,b=>Option.bind (oN (jZ n) b.l ((b.l.length:Nat):Int)) fun f=>on (f) fun g=>some g
def D3 (n:Nat):Prop:=∀{a0:(Sl aj)}{w0:Option Nat}  {r:Int},jZ n a0=some r->∀(H:ah),AC Tryz.prog 16 [.d (Sl.d 9 aj.c w0 a0)] H fun v h'=>v=.a (.d (.int .i64 r))/\h'=H
theorem Ul (n:Nat) (t:D3 (ak:=ak) n):D3 (ak:=ak) (n+1):=by
 intro g w0  r b H;rw [jZ] at b;refine AC.oW 22 [.tmp 2] Tryz.call16 Tryz.func16 ?_;refine af (S As (nil ?_));refine af (S Mv ?_);refine sLen (f:=aj.c) (s:=g) (TK rfl) rfl rfl rfl rfl fun J=>?_;refine S As (nil ?_);refine aT kN (fun(z:Int)=>[(3,.a (.d (.int .i64 z)))]) (fun z=>H) (fun z=>(some z)=some r) ?_ ?_
 ·intro K u;refine af (S As (nil ?_));refine block ?_;obtain⟨j,v,b⟩:=cB b;refine bx (TA 0 kN) (fun(z:Int×Nat)=>[(3,.a (.d (.int .i64 z.1))),(4,.a (.d (.int .i64 ((z.2:Nat):Int))))]) (fun z=>H) (fun z=>g.l.length-z.2) (fun z=>Option.bind (oN (jZ n) (g.l.drop z.2) z.1) j=some r) (((g.l.length:Nat):Int),0) b wA ?_;rintro ⟨k,m⟩ b L w;try dsimp only at b
  refine ay fun y o=>?_;refine af (S Mv (S Mv ?_));refine sLen (f:=aj.c) (s:=g) (TK rfl) rfl rfl rfl rfl fun M=>?_;refine S BI (nil ?_);refine ag.cA (fun l=>Option.bind (oN (jZ n) l k) j=some r) b rfl (fun N p i b=>?_) (fun i b=>?_)
  ·rw [oN] at b;try dsimp only at i
   have O:=oD i;refine sk o ?_;clear o y;refine ay fun B q=>?_;refine block ?_;refine region ?_;refine S Mv (S Mv (S Mv ?_));obtain⟨P,C,b⟩:=vO p b;refine S (ix aj.c m C) (S Fv ?_);refine s0 (bS (TK rfl) rfl rfl (congrArg (fun x=>some (A.d x)) (aj.gG _))) rfl ?_;obtain⟨Q,E,b⟩:=qO rfl b;refine Sc rfl rfl (t E) ?_;obtain⟨F,G,b⟩:=qO rfl b
   refine s0 (cI rfl rfl G) rfl ?_;refine S As (nil ?_);refine q _ ?_;clear q B;refine region ?_;refine S Mv ?_;refine SI ?_;refine S As (nil ?_);exact w _ (F,(m+1)) wA b (dl p)
  rw [oN] at b;have b:=ku v b;refine ag.exit ?_;obtain⟨R,I,b⟩:=bW b;have b:=ku I b;exact u _ k wA b
 rintro U b;try dsimp only at b
 refine af (S Mv (S As (nil ?_)));exact rt b
theorem JF:∀(n:Nat),(D3 (ak:=ak) n)
 | 0=>fun b=>by first|cases b|(rw [jZ] at b; cases b)
 | n+1=>Ul n (JF n)
def JG (b:(Sl aj)):Option Int:=jZ F0 b
theorem Um {b:Sl aj}{w0:Option Nat}{r:Int}(f:JG b=some r) (H:ah) :AC Tryz.prog 16 [.d (Sl.d 9 aj.c w0 b)] H fun v h'=>v=.a (.d (.int .i64 r))/\h'=H:=(JF F0) f H 
def AM (b:(Sl aj)):Option Int:=jZ F0 b
theorem Un (a0:(Sl aj)):JG a0=AM a0:=rfl
def uL (b:Int):Bs:=bif (decide (b=(1:Int))) then(([81,117,101,114,121]:Bs)) else(bif (decide (b=(2:Int))) then(([77,117,116,97,116,105,111,110]:Bs)) else(bif (decide (b=(3:Int))) then(([83,117,98,115,99,114,105,112,116,105,111,110]:Bs)) else(([]:Bs))))
def D4 (b:Int):Option Bs:=some (uL b)
theorem Uo (a0:Int):D4 a0=some (uL a0):=rfl
theorem Up {g:Int}{r:Bs}(b:D4 g=some r) (H:ah) :AC Tryz.prog 31 [.d (.int .i64 g)] H fun v h'=>v=.a (.d (.str r))/\h'=H:=by
 unfold D4 uL at b;refine AC.oW 10 [.tmp 2] Tryz.call31 Tryz.func31 ?_;refine af (S As (nil ?_));refine ay fun i f=>?_;refine af (S Mv (nil ?_));refine block ?_;refine af (S BI (S As (nil ?_)));refine cP b (fun j b=>?_) (fun j b=>?_)
 ·refine af (S As (nil ?_));exact rt b
 refine af (S BI (S As (nil ?_)));refine cP b (fun k b=>?_) (fun k b=>?_)
 ·refine af (S As (nil ?_));exact rt b
 refine af (S BI (S As (nil ?_)));refine cP b (fun l b=>?_) (fun l b=>?_)
 ·refine af (S As (nil ?_));exact rt b
 refine sk f ?_;clear f i;refine af (S As (nil ?_));exact rt b
def oK (f:Bs):List Bs->Nat->Unit ⊕ Int
 | [],b=>Sum.inl ()
 | g::i,b=>on (g) fun j=>bif ((j==f)) then(Sum.inr ((b:Nat):Int)) else(oK f (i) (b+1) )
def su (g:(Sl Bs)) (i:Bs):Int:=on (oK i g.l 0 ) fun b=>match b with|Sum.inl _=>(on (()) fun _=>(-1:Int))|Sum.inr f=>(f)
def D5 (b:(Sl Bs)) (f:Bs):Option Int:=some (su b f)
theorem Uq (a0:(Sl Bs)) (a1:Bs):D5 a0 a1=some (su a0 a1):=rfl
theorem Ur {g:Sl Bs}{i:Bs}{w0:Option Nat}{r:Int}(b:D5 g i=some r) (H:ah) :AC Tryz.prog 67 [.d (Sl.d 1 aP w0 g),.d (.str i)] H fun v h'=>v=.a (.d (.int .i64 r))/\h'=H:=by
 unfold D5 su at b;refine AC.oW 19 [.tmp 4] Tryz.call67 Tryz.func67 ?_;refine af (S As (nil ?_));refine aT kN (fun(z:Unit)=>[]) (fun z=>H) (fun z=>some ((-1:Int))=some r) ?_ ?_
 ·intro F u;refine af (S As (nil ?_));refine block ?_;obtain⟨m,o,b⟩:=eB b;refine bx (TA 0 (TA 1 kN)) (fun(z:Nat)=>[(5,.a (.d (.int .i64 ((z:Nat):Int))))]) (fun z=>H) (fun z=>g.l.length-z) (fun z=>m (oK i (g.l.drop z) z )=some r) 0 b wA ?_;rintro j b G w;try dsimp only at b
  refine ay fun x p=>?_;refine af (S Mv (S Mv ?_));refine sLen (f:=aP) (s:=g) (TK rfl) rfl rfl rfl rfl fun I=>?_;refine S BI (nil ?_);refine ag.cA (fun l=>m (oK i l j )=some r) b rfl (fun J q k b=>?_) (fun k b=>?_)
  ·rw [oK] at b;try dsimp only at k
   have K:=oD k;refine sk p ?_;clear p x;refine ay fun y t=>?_;refine block ?_;refine af (S Mv (S Mv ?_));obtain⟨L,B,b⟩:=vP q b;refine S (ix aP j B) (S Ld (S Mv (S BS (nil ?_))));refine cP b (fun C b=>?_) (fun C b=>?_)
   ·refine af (S Mv (S As (nil ?_)));refine ag.ret ?_;repeat (first|refine bK ?_|refine bL ?_)
    have b:=ku o b;obtain rfl:=oJ b;refine bz.bJ H rfl ⟨rfl,rfl⟩ ?_;exact(fun _ _ h=>h)
   refine sk t ?_;clear t y;refine region ?_;refine S Mv ?_;refine SI ?_;refine S As (nil ?_);exact w _ (j+1) wA b (dl q)
  rw [oK] at b;have b:=ku o b;try dsimp only at b
  refine ag.exit ?_;obtain⟨M,E,b⟩:=eB b;have b:=ku E b;exact u _ () wA b
 rintro _ b;try dsimp only at b
 refine af (S As (nil ?_));exact rt b
def rj :az:=(az.mk ([83,116,114,105,110,103]:Bs) (⟨false,[(1:Int)]⟩:Sl Int))
def D6 :Option az:=some (rj )
theorem Us :D6 =some (rj ):=rfl
theorem Ut    {r:az}(b:D6 =some r) (H:ah) :AC Tryz.prog 118 [] H fun v h'=>v=.a (.agg (az.c r))/\h'=H:=by
 unfold D6 rj at b;refine AC.oW 3 [.cell 0 50] Tryz.call118 Tryz.func118 ?_;refine af ?_;refine Sl ?_;refine nil ?_;refine af (S BV (S BU ?_));refine Sf ?_;refine nil ?_;exact rt b
def mC (f:aq) (g:az) (i:aa):Option (aa×Int):=(kD (Z4.mk f aa.zero false (0:Int) (0:Int)) g i).bind fun b=>some (b.1,b.2.1)
def D7 (b:aq) (f:az) (g:aa):Option (aa×Int):=mC b f g
theorem Uu (a0:aq) (a1:az) (a2:aa):D7 a0 a1 a2=mC a0 a1 a2:=rfl
theorem Uv {f:aq}{j:az}{k:aa}{r:aa×Int}(b:D7 f j k=some r) (H:ah) :AC Tryz.prog 177 [.agg (aq.c f),.agg (az.c j),.agg (aa.c k)] H fun v h'=>v=.cS [.agg (aa.c r.1),.d (.int .i64 r.2)]/\h'=H:=by
 unfold D7 mC at b;refine AC.oW 18 [.cell 6 58,.tmp 7] Tryz.call177 Tryz.func177 ?_;refine af (S BX (S BX (S BX ?_)));refine Sl ?_;refine S As (nil ?_);refine af (S Ld (S BU ?_));refine sE (dW.rM rfl) rfl (fun _ _ _ ⟨g,i,l,m,o⟩=>?_); subst l m o;refine hq (H.set g (some (.cells (Z4.c (Z4.mk f aa.zero false (0:Int) (0:Int)))))) ?_;refine S As (nil ?_);refine af (S Mv (S Ld (S Ld ?_)))
 obtain⟨p,q,b⟩:=qT (Ig _ _ _) b;refine sH (de rfl rfl (Ih q _ aI)) rfl ?_;refine hq (H.set g (some (.cells (Z4.c p.2.2)))) ?_;refine S EX (S EX ?_);refine Sf ?_;refine S As (nil ?_);refine ag.ret ?_;repeat (first|refine bK ?_|refine bL ?_)
 obtain rfl:=oJ b;refine bz.bJ H rfl ⟨rfl,rfl⟩ ?_
 first|exact ah.cG i|(simp only [ah.set_set]; exact ah.cG i)
def mD (f:aa):Option Bool:=(r_ f).bind fun b=>aN ((decide (b<=(4096:Int)))) (sg f) (0:Int) fun g=>aN (((decide (b<=(4096:Int)))&&(decide (g<=(24:Int))))) (wZ f false) false fun i=>some (((decide (b<=(4096:Int)))&&(decide (g<=(24:Int))))&&i)
def D8 (b:aa):Option Bool:=mD b
theorem Uw (a0:aa):D8 a0=mD a0:=rfl
theorem Ux {f:aa}{r:Bool}(b:D8 f=some r) (H:ah) :AC Tryz.prog 178 [.agg (aa.c f)] H fun v h'=>v=.a (.d (.bool r))/\h'=H:=by
 unfold D8 mD at b;refine AC.oW 15 [.tmp 2] Tryz.call178 Tryz.func178 ?_;refine af (S BX (S As (nil ?_)));refine af (S Ld ?_);obtain⟨k,g,b⟩:=qT (GR _) b;refine Sc rfl rfl (GQ g) ?_;refine S BI (S Mv (G0 Ld ?_));obtain⟨l,i,b⟩:=dx (GW _) b;refine dA 7 rfl rfl rfl rfl rfl (fun hC=>GV (i hC)) ?_;refine G1 8 rfl BI ?_;refine S PA (S Mv (G0 Ld ?_));obtain⟨m,j,b⟩:=dx (G3 _ _) b
 refine dA 12 rfl rfl rfl rfl rfl (fun hC=>GZ (j hC)) ?_;refine S PA (S As (nil ?_));exact rt b
def mF (o:aq) (f:(Sl aD)):List Z8->Int->Option (Int ⊕ Bool)
 | [],b=>some (Sum.inl b)
 | i::p,b=>aN ((decide (b<((f.l.length:Nat):Int)))) (bV f.l b) aD.zero fun q=>on (bif (decide (b<((f.l.length:Nat):Int))) then i else Z8.zero) fun r=>on (fun(s:Int)=>mF o f (p) s) fun m=>bif ((decide (b<((f.l.length:Nat):Int)))&&((q.ai==r.ai))) then(on (i) fun t=>(bV f.l b).bind fun u=>(mC o t.aJ u.eU).bind fun g=>aN (!(!decide (g.2=(0:Int)))) (bV f.l b) aD.zero fun v=>aN (!(!decide (g.2=(0:Int)))) (mD v.eU) false fun j=>aN (!((!decide (g.2=(0:Int)))||(!j))) (bV f.l b) aD.zero fun w=>aN (!((!decide (g.2=(0:Int)))||(!j))) (ri g.1 w.eU) false fun x=>bif (((!decide (g.2=(0:Int)))||(!j))||(!x)) then(some (Sum.inr false)) else((bG b (1:Int)).bind fun y=>m y)) else(on (i) fun k=>on (bif !k.c_ then i else Z8.zero) fun z=>on (bif !k.c_ then fh z.aJ else false) fun B=>bif (k.c_||B) then(some (Sum.inr false)) else(m b))
def rm (k:aq) (m:(Sl Z8)) (b:(Sl aD)):Option Bool:=Option.bind (mF k b m.l (0:Int)) fun f=>match f with|Sum.inl g=>(on (g) fun i=>some (decide (i=((b.l.length:Nat):Int))))|Sum.inr j=>(some j)
def D9 (b:aq) (f:(Sl Z8)) (g:(Sl aD)):Option Bool:=rm b f g
theorem Uy (a0:aq) (a1:(Sl Z8)) (a2:(Sl aD)):D9 a0 a1 a2=rm a0 a1 a2:=rfl
theorem Uz {o:aq}{j:Sl Z8}{g:Sl aD}{B C:Option Nat}{r:Bool}(b:D9 o j g=some r) (H:ah) :AC Tryz.prog 120 [.agg (aq.c o),.d (Sl.d 10 Z8.c B j),.d (Sl.d 6 aD.c C g)] H fun v h'=>v=.a (.d (.bool r))/\h'=H:=by
 unfold D9 rm at b;refine AC.oW 89 [.tmp 6] Tryz.call120 Tryz.func120 ?_;refine af (S BX (S As (nil ?_)));refine af (S As (nil ?_));refine aT (TA 2 kN) (fun(z:Int)=>[(7,.a (.d (.int .i64 z)))]) (fun z=>H) (fun z=>(some (decide (z=((g.l.length:Nat):Int))))=some r) ?_ ?_
 ·intro aj E;refine af (S As (nil ?_));refine block ?_;obtain⟨p,q,b⟩:=cB b;refine bx (TA 1 (TA 2 (TA 3 kN))) (fun(z:Int×Nat)=>[(7,.a (.d (.int .i64 z.1))),(8,.a (.d (.int .i64 ((z.2:Nat):Int))))]) (fun z=>H) (fun z=>j.l.length-z.2) (fun z=>Option.bind (mF o g (j.l.drop z.2) z.1) p=some r) ((0:Int),0) b wA ?_;rintro ⟨t,i⟩ b ak F;try dsimp only at b
  refine ay fun G w=>?_;refine af (S Mv (S Mv ?_));refine sLen (f:=Z8.c) (s:=j) (TK rfl) rfl rfl rfl rfl fun al=>?_;refine S BI (nil ?_);refine ag.cA (fun l=>Option.bind (mF o g l t) p=some r) b rfl (fun am m u b=>?_) (fun u b=>?_)
  ·rw [mF] at b;try dsimp only at u
   have an:=oD u;refine sk w ?_;clear w G;refine aT (TA 1 (TA 2 (TA 3 (TA 8 kN)))) (fun(z:Int)=>[(7,.a (.d (.int .i64 z)))]) (fun z=>H) (fun z=>Option.bind (mF o g (j.l.drop (i+1)) z) p=some r) ?_ ?_
   ·intro ao x;refine block ?_;refine ag.bY (Sd Mv (Sd Mv ?_));refine au.s0 (cZ (f:=aD.c) (s:=g) (TK rfl) rfl rfl rfl) rfl ?_;refine Sd BI (Sd Mv (b_ Mv (b_ Mv ?_)));obtain⟨ap,I,b⟩:=eA rfl b;refine au.gC rfl rfl (fun hC=>aG (k:=22) rfl (aG (k:=23) rfl (fu (f:=aD.c) (TK rfl) rfl (TK rfl) rfl rfl rfl (I hC)))) rfl ?_;refine cm 24 rfl Fv ?_;refine cm 25 rfl Ld ?_
    refine b_ Mv (b_ Mv ?_);obtain⟨av,J,b⟩:=fc (fun _=>m) b;refine au.gC rfl rfl (fun hC=>aG (k:=27) rfl (aG (k:=28) rfl (eR (f:=Z8.c) (n:=i) (TK rfl) rfl (TK rfl) rfl rfl rfl (J hC)))) rfl ?_;refine cm 29 rfl Fv ?_;refine cm 30 rfl Ld ?_;refine uE 26 31 rfl rfl BS ?_;refine Sd PA ?_;refine au.nil (by decide +kernel) ?_;obtain⟨_,rfl,b⟩:=mO b;refine cO b (fun K b=>?_) (fun K b=>?_)
    ·refine ag.bY (Sd Ld (Sd Mv (Sd Mv ?_)));obtain⟨aw,L,b⟩:=vO m b;refine Sd (ix Z8.c i L) (Sd Fv (Sd Ld (Sd Mv (Sd Mv ?_))));obtain⟨ax,M,b⟩:=qO rfl b;refine au.s0 (fu (f:=aD.c) (TK rfl) rfl (TK rfl) rfl rfl rfl M) rfl ?_;refine Sd Fv (Sd Ld ?_);obtain⟨az,N,b⟩:=qO (Uu _ _ _) b;refine cq rfl rfl (Uv N) ?_;refine Sd Mv (Sd EX (Sd EX ?_));refine au.sB (TK rfl) rfl rfl ?_ (by repeat (first|exact bA.nil|apply bA.cons))
     refine au.dh (dH (TK rfl) rfl rfl rfl rfl rfl) ?_;refine Sd As ?_;refine au.nil (by decide +kernel) ?_;refine bu 9 _ rfl (KA 1 (KA 2 (KA 3 (KA 7 (KA 8 (KA 10 aS.nil)))))) ?_;refine ay fun O y=>?_;refine ag.bY (Sd Mv (Sd BI (Sd Mv (b_ Mv (b_ Mv ?_)))));obtain⟨aA,P,b⟩:=eA rfl b;refine au.gC rfl rfl (fun hC=>aG (k:=52) rfl (aG (k:=53) rfl (fu (f:=aD.c) (TK rfl) rfl (TK rfl) rfl rfl rfl (P hC)))) rfl ?_
     refine cm 54 rfl Fv ?_;refine cm 55 rfl Ld ?_;obtain⟨aB,Q,b⟩:=eA (Uw _) b;refine qs 56 rfl rfl rfl rfl rfl (fun hC=>Ux (Q hC)) ?_;refine cm 57 rfl NB ?_;refine Sd PO (Sd Mv (b_ Ld (b_ Mv (b_ Mv ?_))));obtain⟨aC,R,b⟩:=eA rfl b;refine au.gC rfl rfl (fun hC=>aG (k:=62) rfl (aG (k:=63) rfl (fu (f:=aD.c) (TK rfl) rfl (TK rfl) rfl rfl rfl (R hC)))) rfl ?_
     refine cm 64 rfl Fv ?_;refine cm 65 rfl Ld ?_;obtain⟨aE,U,b⟩:=eA (To _ _) b;refine oA 61 66 rfl rfl rfl rfl rfl rfl (fun hC=>Tp (U hC)) ?_;refine cm 67 rfl NB ?_;refine Sd PO ?_;refine au.nil (by decide +kernel) ?_;refine cO b (fun W b=>?_) (fun W b=>?_)
     ·refine af (S As (nil ?_));refine ag.ret ?_;repeat (first|refine bK ?_|refine bL ?_)
      have b:=ku q b;obtain rfl:=oJ b;refine bz.bJ H rfl ⟨rfl,rfl⟩ ?_;exact(fun _ _ h=>h)
     refine sk y ?_;clear y O;refine region ?_;refine S Mv ?_;obtain⟨X,Y,b⟩:=qO rfl b;refine s0 (cI rfl rfl Y) rfl ?_;refine S As (nil ?_);exact x _ X wA b
    refine af (S Mv (S Mv ?_));obtain⟨aF,Z,b⟩:=vO m b;refine S (ix Z8.c i Z) (S Fv (S Ld (S Mv (G0 Mv (G0 Mv ?_)))));obtain⟨aH,aa,b⟩:=fc (fun _=>m) b;refine gC rfl rfl (fun hC=>aG (k:=78) rfl (aG (k:=79) rfl (eR (f:=Z8.c) (n:=i) (TK rfl) rfl (TK rfl) rfl rfl rfl (aa hC)))) rfl ?_;refine G1 80 rfl Fv ?_;refine G1 81 rfl Ld ?_;obtain⟨aJ,ab,b⟩:=fc (fun _=>(o3 _)) b
    refine dA 82 rfl rfl rfl rfl rfl (fun hC=>o4 (ab hC)) ?_;refine S PO (nil ?_);refine cO b (fun ad b=>?_) (fun ad b=>?_)
    ·refine af (S As (nil ?_));refine ag.ret ?_;repeat (first|refine bK ?_|refine bL ?_)
     have b:=ku q b;obtain rfl:=oJ b;refine bz.bJ H rfl ⟨rfl,rfl⟩ ?_;exact(fun _ _ h=>h)
    refine ag.skip ?_;exact x _ t wA b
   rintro ae b;try dsimp only at b
   refine region ?_;refine S Mv ?_;refine SI ?_;refine S As (nil ?_);exact F _ (ae,(i+1)) wA b (dl m)
  rw [mF] at b;have b:=ku q b;try dsimp only at b
  refine ag.exit ?_;obtain⟨aK,ai,b⟩:=bW b;have b:=ku ai b;exact E _ t wA b
 rintro aL b;try dsimp only at b
 refine af (S Mv (S Mv ?_));refine sLen (f:=aD.c) (s:=g) (TK rfl) rfl rfl rfl rfl fun aM=>?_;refine S BI (S As (nil ?_));exact rt b
end Go.Proofs
namespace Go.Proofs
open Go Go.Ab
open aQ ar ag aS dY
variable {ak:bf}
def tV (g:aq) (b:aj):Option Bool:=aN ((!(decide (b.dR<(-1:Int)))&&(decide ((0:Int)<=b.dR)))) (pe b.aJ) false fun k=>bif ((decide (b.dR<(-1:Int)))||((decide ((0:Int)<=b.dR))&&(!k))) then(some false) else(on (eE b.bF) fun i=>aN (!(!i)) (nw b.bF) false fun m=>bif ((!i)||(m&&((!(b.bF==([95,95,116,121,112,101,110,97,109,101]:Bs)))||(!(b.ai==([95,95,116,121,112,101,110,97,109,101]:Bs)))))) then(some false) else(bif ((b.ai==([95,95,116,121,112,101,110,97,109,101]:Bs))) then(on (rj ) fun o=>(lZ b.aJ o).bind fun p=>some ((p&&(decide (((b.aO.l.length:Nat):Int)=(0:Int))))&&(decide (((b.bE.l.length:Nat):Int)=(0:Int))))) else(on (cU g b.bR) fun q=>on (gm q.1 b.ai) fun f=>aN (!(!f.2)) (lZ f.1.aJ b.aJ) false fun j=>aN (!((!f.2)||(!j))) (rm g f.1.aO b.aO) false fun r=>bif (((!f.2)||(!j))||(!r)) then(some false) else(on (bif !(decide (((b.bE.l.length:Nat):Int)=(0:Int))) then qG g b.aJ.ai else false) fun s=>some ((decide (((b.bE.l.length:Nat):Int)=(0:Int)))||(!s))))))
def D_ (b:aq) (f:aj):Option Bool:=tV b f
theorem UA (a0:aq) (a1:aj):D_ a0 a1=tV a0 a1:=rfl
theorem UB {o:aq}{g:aj}{r:Bool}(b:D_ o g=some r) (H:ah) :AC Tryz.prog 68 [.agg (aq.c o),.agg (aj.c g)] H fun v h'=>v=.a (.d (.bool r))/\h'=H:=by
 unfold D_ tV at b;refine AC.oW 106 [.tmp 4] Tryz.call68 Tryz.func68 ?_;refine af (S BX (S BX (S As (nil ?_))));refine ay fun p i=>?_;refine af (S Fv (S Ld (S BI (S Mv (G0 Fv ?_)))));refine G1 13 rfl Ld ?_;refine G1 14 rfl BI ?_;refine G1 15 rfl Mv ?_;refine G0 Fv ?_;refine G1 17 rfl Ld ?_;obtain⟨O,q,b⟩:=dx (HP _) b;refine dA 18 rfl rfl rfl rfl rfl (fun hC=>HQ (q hC)) ?_
 refine G1 19 rfl NB ?_;refine gC rfl rfl (fun hC=>aG (k:=16) rfl (fV rfl rfl rfl)) rfl ?_;refine S PO (nil ?_);refine cE b (fun t b=>?_) (fun t b=>?_)
 ·refine af (S As (nil ?_));exact rt b
 refine sk i ?_;clear i p;refine ay fun u j=>?_;refine af (S Fv (S Ld ?_));obtain⟨P,w,b⟩:=vT (jo _) b;refine Sc rfl rfl (jq w) ?_;refine S NB (S Mv (G0 Fv ?_));refine G1 28 rfl Ld ?_;obtain⟨Q,y,b⟩:=dx (Hw _) b;refine dA 29 rfl rfl rfl rfl rfl (fun hC=>Hx (y hC)) ?_;refine G1 30 rfl Mv ?_;refine G0 Fv ?_;refine G1 32 rfl Ld ?_;refine G1 33 rfl BS ?_
 refine G1 34 rfl Mv ?_;refine G0 Fv ?_;refine G1 36 rfl Ld ?_;refine G1 37 rfl BS ?_;refine gC rfl rfl (fun hC=>aG (k:=35) rfl (qk rfl rfl rfl)) rfl ?_;refine gC rfl rfl (fun hC=>aG (k:=31) rfl (fV rfl rfl rfl)) rfl ?_;refine S PO (nil ?_);refine cE b (fun z b=>?_) (fun z b=>?_)
 ·refine af (S As (nil ?_));exact rt b
 refine sk j ?_;clear j u;refine ay fun B l=>?_;refine af (S Fv (S Ld (S BS (nil ?_))));refine cE b (fun C b=>?_) (fun C b=>?_)
 ·refine ag.bY (Sd Fv (Sd Ld ?_));obtain⟨R,E,b⟩:=vT (Us ) b;refine cq rfl rfl (Ut E) ?_;obtain⟨U,F,b⟩:=qT (Bh _ _) b;refine cq rfl rfl (xD F) ?_;refine Sd Mv (b_ Fv ?_);refine cm 50 rfl Ld ?_;refine au.gC rfl rfl (fun hC=>aG (k:=51) rfl (cZ (f:=aD.c) (s:=g.aO) (TK rfl) rfl rfl rfl)) rfl ?_;refine cm 52 rfl BI ?_;refine Sd PA (Sd Mv (b_ Fv ?_))
  refine au.gC rfl rfl (fun hC=>aG (k:=56) rfl (bS (TK rfl) rfl rfl (congrArg (fun x=>some (A.d x)) (aj.gG _)))) rfl ?_;refine au.gC rfl rfl (fun hC=>aG (k:=57) rfl (cZ (f:=aj.c) (s:=g.bE) (TK rfl) rfl rfl rfl)) rfl ?_;refine cm 58 rfl BI ?_;refine Sd PA (Sd As ?_);refine au.nil (by decide +kernel) ?_;exact rt b
 refine sk l ?_;clear l B;refine af (S Ld (S Fv (S Ld ?_)));obtain⟨W,G,b⟩:=vT (jv _ _) b;refine Sc rfl rfl (jw G) ?_;refine S Mv (S EX (S EX ?_));refine Sl ?_;refine Sf ?_;refine S As (nil ?_);refine bu 5 _ rfl (KA 2 (KA 3 aS.nil)) ?_;refine af (S Ld (S Fv (S Ld ?_)));obtain⟨X,I,b⟩:=vT (A8 _ _) b;refine Sc rfl rfl (A9 I) ?_;refine S Mv (S EX (S EX ?_))
 refine Sl ?_;refine Sf ?_;refine S As (nil ?_);refine bu 7 _ rfl (KA 2 (KA 3 (KA 8 aS.nil))) ?_;refine ay fun J m=>?_;refine af (S Mv (S NB (S Mv (G0 Fv ?_))));refine G1 78 rfl Ld ?_;refine G0 Fv ?_;refine G1 80 rfl Ld ?_;obtain⟨Y,K,b⟩:=dx (Bh _ _) b;refine fI 79 81 rfl rfl rfl rfl rfl rfl (fun hC=>xD (K hC)) ?_;refine G1 82 rfl NB ?_;refine S PO (S Mv (G0 Ld (G0 Fv ?_)))
 refine G1 87 rfl Ld ?_;refine G0 Fv ?_;refine G1 89 rfl Ld ?_;obtain⟨Z,L,b⟩:=dx (Uy _ _ _) b;refine gC rfl rfl (fun hC=>aG (k:=86) rfl (aG (k:=88) rfl (aG (k:=90) rfl (en rfl rfl (fun H=>Uz (L hC) H))))) rfl ?_;refine G1 91 rfl NB ?_;refine S PO (nil ?_);refine cE b (fun M b=>?_) (fun M b=>?_)
 ·refine af (S As (nil ?_));exact rt b
 refine sk m ?_;clear m J;refine af (S Fv ?_);refine s0 (bS (TK rfl) rfl rfl (congrArg (fun x=>some (A.d x)) (aj.gG _))) rfl ?_;refine sLen (f:=aj.c) (s:=g.bE) (TK rfl) rfl rfl rfl rfl fun aa=>?_;refine S BI (S Mv (G0 Ld (G0 Fv ?_)));refine G1 100 rfl Fv ?_;refine G1 101 rfl Ld ?_;obtain⟨ab,N,b⟩:=lN (fun _=>(HG _ _)) b;refine fI 99 102 rfl rfl rfl rfl rfl rfl (fun hC=>HH (N hC)) ?_
 refine G1 103 rfl NB ?_;refine S PO (S As (nil ?_));exact rt b
def nt (j:(Sl aj)) (f:aj):Nat->Nat->Option (Unit ⊕ Bool)
 | 0,b=>some (Sum.inl ())
 | k+1,b=>(j.l[b]?).bind fun g=>on (f) fun i=>aN (((g.bR==i.bR))) (j.l[b]?) aj.zero fun m=>on (bif ((g.bR==i.bR)) then f else aj.zero) fun o=>bif (((g.bR==i.bR))&&((m.bF==o.bF))) then(some (Sum.inr false)) else(nt j f (k) (b+1) )
def nv (l:aq) (p:(Sl aj)) (b:Int) (m:(Sl Bs)) (o:aq->Bs->(Sl aj)->Int->Option Bool):List aj->Nat->Int->Option (Unit ⊕ Bool)
 | [],k,f=>some (Sum.inl ())
 | i::q,k,f=>on (i) fun r=>on (su m r.bR) fun g=>on (bif !((decide ((24:Int)<b))||(decide (g<f))) then i else aj.zero) fun s=>aN (!((decide ((24:Int)<b))||(decide (g<f)))) (tV l s) false fun j=>on (bif !(((decide ((24:Int)<b))||(decide (g<f)))||(!j)) then i else aj.zero) fun t=>on (bif !(((decide ((24:Int)<b))||(decide (g<f)))||(!j)) then i else aj.zero) fun u=>aN (!(((decide ((24:Int)<b))||(decide (g<f)))||(!j))) (bG b (1:Int)) (0:Int) fun v=>aN (!(((decide ((24:Int)<b))||(decide (g<f)))||(!j))) (o l t.aJ.ai u.bE v) false fun w=>bif ((((decide ((24:Int)<b))||(decide (g<f)))||(!j))||(!w)) then(some (Sum.inr false)) else(Option.bind (nt p i k 0 ) fun x=>match x with|Sum.inl _=>(on (g) fun y=>nv l p b m o (q) (k+1) y)|Sum.inr z=>(some (Sum.inr z)))
def jY:Nat->aq->Bs->(Sl aj)->Int->Option Bool
 | 0,_,_,_,_=>none
 | n+1,b,k,f,m=>(kn b k).bind fun g=>Option.bind (nv b f m g (jY n) f.l 0 (0:Int)) fun i=>match i with|Sum.inl _=>(on (()) fun _=>some true)|Sum.inr j=>(some j)
def Ea (n:Nat):Prop:=∀{a0:aq}{a1:Bs}{a2:(Sl aj)}{a3:Int}{b:Option Nat}  {r:Bool},jY n a0 a1 a2 a3=some r->∀(H:ah),AC Tryz.prog 32 [.agg (aq.c a0),.d (.str a1),.d (Sl.d 9 aj.c b a2),.d (.int .i64 a3)] H fun v h'=>v=.a (.d (.bool r))/\h'=H
theorem UC (n:Nat) (J:Ea (ak:=ak) n):Ea (ak:=ak) (n+1):=by
 intro v a0 i w aB  r b H;rw [jY] at b;refine AC.oW 94 [.tmp 8] Tryz.call32 Tryz.func32 ?_;refine af (S BX (S As (nil ?_)));refine af (S Ld (S Mv ?_));obtain⟨o,K,b⟩:=qT (HT _ _) b;refine Sc rfl rfl (HU K) ?_;refine S As (nil ?_);refine af (S As (nil ?_));refine aT kN (fun(z:Unit)=>[]) (fun z=>H) (fun z=>(some true)=some r) ?_ ?_
 ·intro aC L;refine af (S As (nil ?_));refine block ?_;obtain⟨p,q,b⟩:=cB b;refine bx (TA 2 (TA 3 (TA 4 (TA 9 kN)))) (fun(z:Int×Nat)=>[(10,.a (.d (.int .i64 z.1))),(11,.a (.d (.int .i64 ((z.2:Nat):Int))))]) (fun z=>H) (fun z=>i.l.length-z.2) (fun z=>Option.bind (nv v i w o (jY n) (i.l.drop z.2) z.2 z.1) p=some r) ((0:Int),0) b wA ?_;rintro ⟨M,g⟩ b aD N
  try dsimp only at b
  refine ay fun O y=>?_;refine af (S Mv (S Mv ?_));refine sLen (f:=aj.c) (s:=i) (TK rfl) rfl rfl rfl rfl fun aE=>?_;refine S BI (nil ?_);refine ag.cA (fun l=>Option.bind (nv v i w o (jY n) l g M) p=some r) b rfl (fun B j t b=>?_) (fun t b=>?_)
  ·rw [nv] at b;try dsimp only at t
   have aF:=oD t;refine sk y ?_;clear y O;refine aT (TA 2 (TA 3 (TA 4 (TA 9 (TA 11 kN))))) (fun(z:Int)=>[(10,.a (.d (.int .i64 z)))]) (fun z=>H) (fun z=>Option.bind (nv v i w o (jY n) (i.l.drop (g+1)) (g+1) z) p=some r) ?_ ?_
   ·intro aH P;refine block ?_;refine af (S Mv (S Mv (S Mv ?_)));obtain⟨aJ,Q,b⟩:=vO j b;refine S (ix aj.c g Q) (S Fv (S Ld ?_));obtain⟨R,U,b⟩:=vO (Uq _ _) b;refine Sc rfl rfl (Ur U) ?_;refine S As (nil ?_);refine ay fun W C=>?_;refine ag.bY (Sd Mv (Sd BI (Sd Mv (b_ Mv (b_ Mv ?_)))));refine uE 33 34 rfl rfl BI ?_;refine Sd PO (Sd Mv (b_ Ld (b_ Mv (b_ Mv ?_))))
    obtain⟨aK,X,b⟩:=fc (fun _=>j) b;refine au.gC rfl rfl (fun hC=>aG (k:=39) rfl (aG (k:=40) rfl (eR (f:=aj.c) (n:=g) (TK rfl) rfl (TK rfl) rfl rfl rfl (X hC)))) rfl ?_;refine cm 41 rfl Ld ?_;obtain⟨aL,Y,b⟩:=eA (UA _ _) b;refine oA 38 42 rfl rfl rfl rfl rfl rfl (fun hC=>UB (Y hC)) ?_;refine cm 43 rfl NB ?_;refine Sd PO (Sd Mv (b_ Ld (b_ Mv (b_ Mv ?_))))
    obtain⟨aM,Z,b⟩:=fc (fun _=>j) b;refine au.gC rfl rfl (fun hC=>aG (k:=48) rfl (aG (k:=49) rfl (eR (f:=aj.c) (n:=g) (TK rfl) rfl (TK rfl) rfl rfl rfl (Z hC)))) rfl ?_;refine cm 50 rfl Fv ?_;refine cm 51 rfl Fv ?_;refine cm 52 rfl Ld ?_;refine b_ Mv (b_ Mv ?_);obtain⟨aN,aa,b⟩:=fc (fun _=>j) b;refine au.gC rfl rfl (fun hC=>aG (k:=54) rfl (aG (k:=55) rfl (eR (f:=aj.c) (n:=g) (TK rfl) rfl (TK rfl) rfl rfl rfl (aa hC)))) rfl ?_
    refine cm 56 rfl Fv ?_;refine au.gC rfl rfl (fun hC=>aG (k:=57) rfl (bS (TK rfl) rfl rfl (congrArg (fun x=>some (A.d x)) (aj.gG _)))) rfl ?_;refine b_ Mv ?_;obtain⟨aO,ab,b⟩:=eA rfl b;refine au.gC rfl rfl (fun hC=>aG (k:=59) rfl (cI rfl rfl (ab hC))) rfl ?_;obtain⟨aP,ad,b⟩:=eA rfl b;refine au.gC rfl rfl (fun hC=>aG (k:=47) rfl (aG (k:=53) rfl (aG (k:=58) rfl (aG (k:=60) rfl (en rfl rfl (fun H=>J (ad hC) H)))))) rfl ?_
    refine cm 61 rfl NB ?_;refine Sd PO ?_;refine au.nil (by decide +kernel) ?_;refine cO b (fun ae b=>?_) (fun ae b=>?_)
    ·refine af (S As (nil ?_));refine ag.ret ?_;repeat (first|refine bK ?_|refine bL ?_)
     have b:=ku q b;obtain rfl:=oJ b;refine bz.bJ H rfl ⟨rfl,rfl⟩ ?_;exact(fun _ _ h=>h)
    refine sk C ?_;clear C W;refine af (S Mv (S As (nil ?_)));refine af (S As (nil ?_));refine block ?_;obtain⟨E,F,b⟩:=gE b;refine bx (TA 2 (TA 3 (TA 4 (TA 9 (TA 10 (TA 11 kN)))))) (fun(z:Nat)=>[(13,.a (.d (.int .i64 ((z:Nat):Int))))]) (fun z=>H) (fun z=>g-z) (fun z=>Option.bind (nt i B (g-z) z ) E=some r) 0 b wA ?_;rintro m b aQ ai
    try dsimp only at b
    refine ay fun al G=>?_;refine af (S Mv (S Mv (S BI (nil ?_))));refine ag.Ac (fun l=>Option.bind (nt i B l m ) E=some r) b rfl (fun am u b=>?_) (fun u b=>?_)
    ·rw [nt] at b;try dsimp only at u
     have aR:=oD u;refine sk G ?_;clear G al;refine ay fun an I=>?_;refine block ?_;refine ag.bY (Sd Mv (Sd Mv ?_));obtain⟨aU,ao,b⟩:=qO rfl b;refine Sd (ix aj.c m ao) (Sd Fv (Sd Ld (Sd Mv (Sd Mv ?_))));obtain⟨aV,ap,b⟩:=vO j b;refine Sd (ix aj.c g ap) (Sd Fv (Sd Ld (Sd BS (Sd Mv (b_ Mv (b_ Mv ?_))))));obtain⟨aW,aq,b⟩:=eA rfl b;refine au.gC rfl rfl (fun hC=>aG (k:=82) rfl (aG (k:=83) rfl (eR (f:=aj.c) (n:=m) (TK rfl) rfl (TK rfl) rfl rfl rfl (aq hC)))) rfl ?_
     refine cm 84 rfl Fv ?_;refine cm 85 rfl Ld ?_;refine b_ Mv (b_ Mv ?_);obtain⟨aX,av,b⟩:=fc (fun _=>j) b;refine au.gC rfl rfl (fun hC=>aG (k:=87) rfl (aG (k:=88) rfl (eR (f:=aj.c) (n:=g) (TK rfl) rfl (TK rfl) rfl rfl rfl (av hC)))) rfl ?_;refine cm 89 rfl Fv ?_;refine cm 90 rfl Ld ?_;refine uE 86 91 rfl rfl BS ?_;refine Sd PA ?_;refine au.nil (by decide +kernel) ?_
     refine cO b (fun aw b=>?_) (fun aw b=>?_)
     ·refine af (S As (nil ?_));refine ag.ret ?_;repeat (first|refine bK ?_|refine bL ?_)
      have b:=ku F b;have b:=ku q b;obtain rfl:=oJ b;refine bz.bJ H rfl ⟨rfl,rfl⟩ ?_;exact(fun _ _ h=>h)
     refine sk I ?_;clear I an;refine region ?_;refine S Mv ?_;refine SI ?_;refine S As (nil ?_);exact ai _ (m+1) wA b (dn am)
    rw [nt] at b;have b:=ku F b;try dsimp only at b
    refine ag.exit ?_;obtain⟨aY,ax,b⟩:=jR b;have b:=ku ax b;exact P _ R wA b
   rintro az b;try dsimp only at b
   refine region ?_;refine S Mv ?_;refine SI ?_;refine S As (nil ?_);exact N _ (az,(g+1)) wA b (dl j)
  rw [nv] at b;have b:=ku q b;try dsimp only at b
  refine ag.exit ?_;obtain⟨aZ,aA,b⟩:=bW b;have b:=ku aA b;exact L _ () wA b
 rintro _ b;try dsimp only at b
 refine af (S As (nil ?_));exact rt b
theorem JH:∀(n:Nat),(Ea (ak:=ak) n)
 | 0=>fun b=>by first|cases b|(rw [jY] at b; cases b)
 | n+1=>UC n (JH n)
def JI (b:aq) (f:Bs) (g:(Sl aj)) (i:Int):Option Bool:=jY F0 b f g i
theorem UD {b:aq}{f:Bs}{g:Sl aj}{i:Int}{j:Option Nat}{r:Bool}(k:JI b f g i=some r) (H:ah) :AC Tryz.prog 32 [.agg (aq.c b),.d (.str f),.d (Sl.d 9 aj.c j g),.d (.int .i64 i)] H fun v h'=>v=.a (.d (.bool r))/\h'=H:=(JH F0) k H 
def AO (b:aq) (f:Bs) (g:(Sl aj)) (i:Int):Option Bool:=jY F0 b f g i
theorem UE (a0:aq) (a1:Bs) (a2:(Sl aj)) (a3:Int):JI a0 a1 a2 a3=AO a0 a1 a2 a3:=rfl
def sx (i:aq) (f:cK):Option Bool:=on (uL f.an) fun j=>on (cU i j) fun b=>aN ((b.2&&(decide (b.1.an=(1:Int))))) (AM f.bE) (0:Int) fun g=>aN (((b.2&&(decide (b.1.an=(1:Int))))&&(decide (g<=(2048:Int))))) (AO i b.1.ai f.bE (1:Int)) false fun k=>some (((b.2&&(decide (b.1.an=(1:Int))))&&(decide (g<=(2048:Int))))&&k)
def Eb (b:aq) (f:cK):Option Bool:=sx b f
theorem UF (a0:aq) (a1:cK):Eb a0 a1=sx a0 a1:=rfl
theorem UG {f:aq}{g:cK}{r:Bool}(b:Eb f g=some r) (H:ah) :AC Tryz.prog 10 [.agg (aq.c f),.agg (cK.c g)] H fun v h'=>v=.a (.d (.bool r))/\h'=H:=by
 unfold Eb sx at b;refine AC.oW 35 [.tmp 4] Tryz.call10 Tryz.func10 ?_;refine af (S BX (S BX (S As (nil ?_))));refine ag.bY (Sd Ld (Sd Fv (Sd Ld ?_)));obtain⟨o,i,b⟩:=vT (Uo _) b;refine cq rfl rfl (Up i) ?_;obtain⟨p,j,b⟩:=vT (jv _ _) b;refine cq rfl rfl (jw j) ?_;refine Sd Mv (Sd EX (Sd EX ?_));refine au.sB (TK rfl) rfl rfl ?_ (by repeat (first|exact bA.nil|apply bA.cons))
 refine au.dh (dH (TK rfl) rfl rfl rfl rfl rfl) ?_;refine Sd As ?_;refine au.nil (by decide +kernel) ?_;refine bu 5 _ rfl (KA 2 (KA 3 (KA 6 aS.nil))) ?_;refine af (S Mv (S Mv (G0 Fv ?_)));refine G1 17 rfl Ld ?_;refine G1 18 rfl BI ?_;refine S PA (S Mv (G0 Fv ?_));refine G1 22 rfl Ld ?_;obtain⟨q,l,b⟩:=dx (Un _) b;refine dA 23 rfl rfl rfl rfl rfl (fun hC=>Um (l hC)) ?_
 refine G1 24 rfl BI ?_;refine S PA (S Mv (G0 Ld (G0 Fv ?_)));refine G1 29 rfl Ld ?_;refine G0 Fv ?_;refine G1 31 rfl Ld ?_;obtain⟨s,m,b⟩:=dx (UE _ _ _ _) b;refine gC rfl rfl (fun hC=>aG (k:=28) rfl (aG (k:=30) rfl (aG (k:=32) rfl (en rfl rfl (fun H=>UD (m hC) H))))) rfl ?_;refine S PA (S As (nil ?_));exact rt b
section
variable [jO ak]
def uN (b:aq) (f:cK):Option Bool:=(sv b).bind fun g=>aN (!(!g)) (s4 f.bE) false fun k=>bif ((!g)||k) then((uM).bind fun l=>some l) else((xl b f).bind fun i=>(sx b f).bind fun j=>aN (((i==j))) (uM) false fun m=>some (((i==j))&&m))
def Ec (b:aq) (f:cK):Option Bool:=uN b f
theorem P0 (a0:aq) (a1:cK):Ec a0 a1=uN a0 a1:=rfl
theorem PZ {g:aq}{i:cK}{oT:Ab.Obj}{gT:Nat}{r:Bool}(b:Ec g i=some r) (H:ah) (t:H gT=some oT) (u:fP Tryz.prog oT):AC Tryz.prog 3 [.agg (aq.c g),.agg (cK.c i)] H fun v h'=>v=.a (.d (.bool r))/\h'=H:=by
 unfold Ec uN at b;refine AC.oW 24 [.tmp 4] Tryz.call3 Tryz.func3 ?_;refine af (S BX (S BX (S As (nil ?_))));refine ay fun j f=>?_;refine af (S Ld ?_);obtain⟨w,k,b⟩:=qT (Ra _) b;refine Sc rfl rfl (Rb k) ?_;refine S NB (S Mv (G0 Fv ?_));refine G1 9 rfl Ld ?_;obtain⟨x,l,b⟩:=dx (Rg _) b;refine dA 10 rfl rfl rfl rfl rfl (fun hC=>Rh (l hC)) ?_;refine S PO (nil ?_)
 refine cE b (fun m b=>?_) (fun m b=>?_)
 ·refine af ?_;obtain⟨y,o,b⟩:=qT rfl b;refine s0 (gN rfl rfl (JE (gT:=gT) (oT:=oT) o _ aI (by assumption))) rfl ?_;refine S As (nil ?_);exact rt b
 refine sk f ?_;clear f j;refine ag.bY (Sd Ld (Sd Ld ?_));obtain⟨z,p,b⟩:=qT (Ti _ _) b;refine au.s0 (gN rfl rfl (CQ (gT:=gT) (oT:=oT) p _ aI (by assumption))) rfl ?_;refine Sd Ld (Sd Ld ?_);obtain⟨B,q,b⟩:=qT (UF _ _) b;refine cq rfl rfl (UG q) ?_;refine au.s0 (ME (TK rfl) rfl rfl rfl) rfl ?_;refine Sd Mv ?_;obtain⟨C,s,b⟩:=dx rfl b
 refine au.gC rfl rfl (fun hC=>gN rfl rfl (JE (gT:=gT) (oT:=oT) (s hC) _ aI (by assumption))) rfl ?_;refine Sd PA (Sd As ?_);refine au.nil (by decide +kernel) ?_;exact rt b
end
end Go.Proofs
namespace Go.Proofs
open Go Go.Ab
theorem UH (a:az) (g:a.aK.l.length<=1048576) (l:List Int) (i:Nat) (h:i+l.length=a.aK.l.length):Ok (oH a l i):=by
 induction l generalizing i with
 | nil=>exact bg.some _
 | cons x r f =>
  simp only [List.length_cons] at h;have hr:=f (i+1) (by omega);rw [oH];simp only [on];refine bg.cond (fun _=>bg.some _) fun _=>?_;by_cases hi:0<i
  ·have h1:decide ((0:Int)<((i:Nat):Int))=true:=by simpa using hi
   obtain⟨v,hv⟩:=OF (l:=a.aK.l) (n:=(i:Int)-1) (by omega);simp only [h1,cond_true,Bool.true_and,Gv (a:=(i:Int)) (b:=1) (by omega)];cases decide (x=1)<;>simp only [aN,hv,if_true,oB,Bool.false_eq_true,if_false,Bool.false_and,cond_false]
   ·exact hr
   ·(repeat' (first|exact bg.some _|assumption|(with_reducible refine bg.bind ?_ fun _ _=>?_)|(with_reducible refine bg.guard (fun _=>?_) fun _ _ _=>?_)|(with_reducible refine bg.cond (fun _=>?_) fun _=>?_)|(with_reducible refine bg.on fun _ _=>?_)|split))
  ·have h1:decide ((0:Int)<((i:Nat):Int))=false:=by simpa using hi
   simp only [h1,Bool.false_and,aN,Bool.false_eq_true,if_false,cond_false];exact hr
theorem JJ (a:az) (b:a.aK.l.length<=1048576):Ok (qA a):=by
 unfold qA
 (repeat' (first|exact bg.some _|assumption|(with_reducible refine bg.bind ?_ fun _ _=>?_)|(with_reducible refine bg.guard (fun _=>?_) fun _ _ _=>?_)|(with_reducible refine bg.cond (fun _=>?_) fun _=>?_)|(with_reducible refine bg.on fun _ _=>?_)|split))
 exact UH a b _ _ (by simp)
theorem UI (k:aa->Option Int) (l:List aa) (s:Int) (hk:∀x∈l,∃r,k x=some r/\1<=r/\r<=x.sz) (j:0<=s) (b:s+((l.map aa.sz).sum:Nat)<=1152921504606846976):∃r,lU k l s=some r/\s<=r/\r<=s+((l.map aa.sz).sum:Nat):=by
 induction l generalizing s with
 | nil=>exact⟨s,rfl,by simp,by simp⟩
 | cons x r f =>
  obtain⟨v,h1,m,o⟩:=hk x List.mem_cons_self;simp only [List.map_cons,List.sum_cons] at b ⊢;rw [lU];simp only [on,h1,oB];rw [eH (by omega)];simp only [oB];obtain⟨w,g,p,q⟩:=f (s+v) (fun y i=>hk y (List.mem_cons_of_mem _ i)) (by omega) (by omega);exact⟨w,g,by omega,by omega⟩
theorem aa.jG {v x:aa}(h:x∈v.av.l):x.sz<v.sz:=by
 have h1:=v.bM; have b:=Sl.dV (f:=aa.sz) h; omega
theorem aa.JK (v:aa):2+(v.av.l.map aa.sz).sum<=v.sz:=by
 have h1:=v.bM; have b:Sl.sz aa.sz v.av=1+(v.av.l.map aa.sz).sum:=rfl; omega
theorem UJ (n:Nat):∀v:aa,v.sz<n->v.sz<=1073741824->∃r,jr n v=some r/\1<=r/\r<=v.sz:=by
 induction n with
 | zero=>intro v h; omega
 | succ n b =>
  intro v h i;have h0:=v.JK;obtain⟨w,f,j,k⟩:=UI (jr n) v.av.l 1 (fun x g=>by have:=aa.jG g; exact b x (by omega) (by omega)) (by omega) (by omega);rw [jr,f];exact⟨w,rfl,by omega,by omega⟩
theorem JL (v:aa) (h:v.sz<=1048576):∃r,r_ v=some r/\1<=r/\r<=v.sz:=UJ F0 v (by rw [dM]; omega) (by omega)
theorem UK (k:aa->Option Int) (l:List aa) (s b:Int) (hk:∀x∈l,∃r,k x=some r/\1<=r/\r<=b) (i:0<=s/\s<=b):∃r,lV k l s=some r/\0<=r/\r<=b:=by
 induction l generalizing s with
 | nil=>exact⟨s,rfl,by omega,by omega⟩
 | cons x r f =>
  obtain⟨v,h1,j,m⟩:=hk x List.mem_cons_self;rw [lV];simp only [on,h1,oB];exact f _ (fun y g=>hk y (List.mem_cons_of_mem _ g)) (by split<;>omega)
theorem UL (n:Nat):∀v:aa,v.sz<n->v.sz<=1073741824->∃r,js n v=some r/\1<=r/\r<=v.sz:=by
 induction n with
 | zero=>intro v h; omega
 | succ n b =>
  intro v h k;have h0:=v.JK;obtain⟨w,f,m,o⟩:=UK (js n) v.av.l 0 (v.sz-1:Nat) (fun x g=>by have:=aa.jG g; obtain⟨r,i,j,p⟩:=b x (by omega) (by omega); exact⟨r,i,j,by omega⟩) (by omega);rw [js,f];simp only [on,oB];rw [eH (by omega)];exact⟨w+1,rfl,by omega,by omega⟩
theorem JM (v:aa) (h:v.sz<=1048576):Ok (sg v):=by
 obtain⟨r,hr,_⟩:=UL F0 v (by rw [dM]; omega) (by omega); exact⟨r,hr⟩
theorem UM (a:Sl Bs) (x:Bs) (m i:Nat) (h:i+m<=a.l.length):Ok (kY a x m i):=by
 induction m generalizing i with
 | zero=>exact bg.some _
 | succ m b =>
  rw [kY]
  (repeat' (first|exact bg.some _|assumption|(with_reducible refine bg.bind ?_ fun _ _=>?_)|(with_reducible refine bg.guard (fun _=>?_) fun _ _ _=>?_)|(with_reducible refine bg.cond (fun _=>?_) fun _=>?_)|(with_reducible refine bg.on fun _ _=>?_)|split))
  ·exact OG (by omega)
  ·exact b _ (by omega)
theorem UN (a:Sl Bs) (l:List Bs) (i:Nat) (h:i+l.length=a.l.length):Ok (kZ a l i):=by
 induction l generalizing i with
 | nil=>exact bg.some _
 | cons x r b =>
  simp only [List.length_cons] at h;rw [kZ]
  (repeat' (first|exact bg.some _|assumption|(with_reducible refine bg.bind ?_ fun _ _=>?_)|(with_reducible refine bg.guard (fun _=>?_) fun _ _ _=>?_)|(with_reducible refine bg.cond (fun _=>?_) fun _=>?_)|(with_reducible refine bg.on fun _ _=>?_)|split))
  ·exact UM a x _ _ (by omega)
  ·exact b _ (by omega)
theorem UO (a:Sl Bs):Ok (oE a):=by
 unfold oE
 (repeat' (first|exact bg.some _|assumption|(with_reducible refine bg.bind ?_ fun _ _=>?_)|(with_reducible refine bg.guard (fun _=>?_) fun _ _ _=>?_)|(with_reducible refine bg.cond (fun _=>?_) fun _=>?_)|(with_reducible refine bg.on fun _ _=>?_)|split))
 exact UN a _ _ (by simp)
theorem UP (v:aa) (b:Bool):Ok (k7 v b):=by
 unfold k7
 (repeat' (first|exact bg.some _|assumption|(with_reducible refine bg.bind ?_ fun _ _=>?_)|(with_reducible refine bg.guard (fun _=>?_) fun _ _ _=>?_)|(with_reducible refine bg.cond (fun _=>?_) fun _=>?_)|(with_reducible refine bg.on fun _ _=>?_)|split))
 exact UO _
theorem UQ (b:Bool) (k:aa->Bool->Option Bool) (l:List aa) (hk:∀x∈l,Ok (k x b)):Ok (iz b k l):=by
 induction l with
 | nil=>exact bg.some _
 | cons x r f =>
  rw [iz]
  (repeat' (first|exact bg.some _|assumption|(with_reducible refine bg.bind ?_ fun _ _=>?_)|(with_reducible refine bg.guard (fun _=>?_) fun _ _ _=>?_)|(with_reducible refine bg.cond (fun _=>?_) fun _=>?_)|(with_reducible refine bg.on fun _ _=>?_)|split))
  ·rename_i h; rw [h]; exact hk x List.mem_cons_self
  ·exact f fun y g=>hk y (List.mem_cons_of_mem _ g)
theorem UR (n:Nat):∀(v:aa) (b:Bool),v.sz<n->Ok (fJ n v b):=by
 induction n with
 | zero=>intro v b h; omega
 | succ n f =>
  intro v b h;rw [fJ]
  (repeat' (first|exact bg.some _|assumption|(with_reducible refine bg.bind ?_ fun _ _=>?_)|(with_reducible refine bg.guard (fun _=>?_) fun _ _ _=>?_)|(with_reducible refine bg.cond (fun _=>?_) fun _=>?_)|(with_reducible refine bg.on fun _ _=>?_)|split))
  ·exact UP _ _
  ·exact UQ b _ _ fun x g=>f x b (by have:=aa.jG g; omega)
theorem JN (v:aa) (h:v.sz<=1048576):Ok (gH v):=by
 unfold gH;obtain⟨r,hr,_⟩:=JL v h
 (repeat' (first|exact bg.some _|assumption|(with_reducible refine bg.bind ?_ fun _ _=>?_)|(with_reducible refine bg.guard (fun _=>?_) fun _ _ _=>?_)|(with_reducible refine bg.cond (fun _=>?_) fun _=>?_)|(with_reducible refine bg.on fun _ _=>?_)|split))
 ·exact⟨r,hr⟩
 ·exact JM v h
 ·exact UR F0 v true (by rw [dM]; omega)
theorem US (k:aa->Option Bool) (l:List aa) (hk:∀x∈l,Ok (k x)):Ok (oF k l):=by
 induction l with
 | nil=>exact bg.some _
 | cons x r b =>
  rw [oF]
  (repeat' (first|exact bg.some _|assumption|(with_reducible refine bg.bind ?_ fun _ _=>?_)|(with_reducible refine bg.guard (fun _=>?_) fun _ _ _=>?_)|(with_reducible refine bg.cond (fun _=>?_) fun _=>?_)|(with_reducible refine bg.on fun _ _=>?_)|split))
  ·rename_i h; rw [h]; exact hk x List.mem_cons_self
  ·exact b fun y f=>hk y (List.mem_cons_of_mem _ f)
theorem UT (n:Nat):∀(v:aa),v.sz<n->Ok (lW n v):=by
 induction n with
 | zero=>intro v h; omega
 | succ n b =>
  intro v h;rw [lW]
  (repeat' (first|exact bg.some _|assumption|(with_reducible refine bg.bind ?_ fun _ _=>?_)|(with_reducible refine bg.guard (fun _=>?_) fun _ _ _=>?_)|(with_reducible refine bg.cond (fun _=>?_) fun _=>?_)|(with_reducible refine bg.on fun _ _=>?_)|split))
  exact US _ _ fun x f=>b x (by have:=aa.jG f; omega)
theorem JO (v:aa) (h:v.sz<=1048576):Ok (xd v):=UT F0 v (by rw [dM]; omega)
theorem aD.UU (a:aD):a.eU.sz<=a.sz:=by have:=a.bM; omega
theorem aL.JP {x:aL}{a:aD}(h:a∈x.aO.l):a.sz<=x.sz:=by have:=x.bM; have:=Sl.dV (f:=aD.sz) h; omega
theorem UW (b:aL) (l:List aD) (h:∀a∈l,a.sz<=1048576):Ok (qy b l):=by
 induction l with
 | nil=>exact bg.some _
 | cons x r f =>
  have h1:=h x List.mem_cons_self; have i:=x.UU;rw [qy]
  (repeat' (first|exact bg.some _|assumption|(with_reducible refine bg.bind ?_ fun _ _=>?_)|(with_reducible refine bg.guard (fun _=>?_) fun _ _ _=>?_)|(with_reducible refine bg.cond (fun _=>?_) fun _=>?_)|(with_reducible refine bg.on fun _ _=>?_)|split))
  all_goals first|exact f fun y g=>h y (List.mem_cons_of_mem _ g)|(subst_vars; first|exact JN _ (by omega)|exact JO _ (by omega))
theorem UX (l:List aL) (h:∀a∈l,a.sz<=1048576):Ok (qz l):=by
 induction l with
 | nil=>exact bg.some _
 | cons x r b =>
  have h1:=h x List.mem_cons_self;rw [qz]
  (repeat' (first|exact bg.some _|assumption|(with_reducible refine bg.bind ?_ fun _ _=>?_)|(with_reducible refine bg.guard (fun _=>?_) fun _ _ _=>?_)|(with_reducible refine bg.cond (fun _=>?_) fun _=>?_)|(with_reducible refine bg.on fun _ _=>?_)|split))
  ·exact UW x _ fun a f=>by have:=aL.JP f; omega
  ·exact b fun y g=>h y (List.mem_cons_of_mem _ g)
theorem yM (s:Sl aL) (h:Sl.sz aL.sz s<=1048576):Ok (oG s):=by
 unfold oG
 (repeat' (first|exact bg.some _|assumption|(with_reducible refine bg.bind ?_ fun _ _=>?_)|(with_reducible refine bg.guard (fun _=>?_) fun _ _ _=>?_)|(with_reducible refine bg.cond (fun _=>?_) fun _=>?_)|(with_reducible refine bg.on fun _ _=>?_)|split))
 exact UX _ fun a b=>by have:=Sl.dV (f:=aL.sz) b; omega
theorem az.pR (r:az):r.aK.l.length<=r.sz:=by have:=r.bM; have:=Sl.dN (f:=fun _:Int=>1) r.aK (fun _=>Nat.le_refl _); omega
theorem UY (l:List Z8) (h:∀a∈l,a.sz<=1048576):Ok (jV l):=by
 induction l with
 | nil=>exact bg.some _
 | cons x r b =>
  have h1:=h x List.mem_cons_self; have g:=x.bM; have i:=x.aJ.pR;rw [jV]
  (repeat' (first|exact bg.some _|assumption|(with_reducible refine bg.bind ?_ fun _ _=>?_)|(with_reducible refine bg.guard (fun _=>?_) fun _ _ _=>?_)|(with_reducible refine bg.cond (fun _=>?_) fun _=>?_)|(with_reducible refine bg.on fun _ _=>?_)|split))
  all_goals first|exact b fun y f=>h y (List.mem_cons_of_mem _ f)|(subst_vars; first|exact JJ _ (by omega)|exact yM _ (by omega)|exact JN _ (by omega)|exact JO _ (by omega))
theorem JQ (s:Sl Z8) (h:Sl.sz Z8.sz s<=1048576):Ok (gZ s):=by
 unfold gZ
 (repeat' (first|exact bg.some _|assumption|(with_reducible refine bg.bind ?_ fun _ _=>?_)|(with_reducible refine bg.guard (fun _=>?_) fun _ _ _=>?_)|(with_reducible refine bg.cond (fun _=>?_) fun _=>?_)|(with_reducible refine bg.on fun _ _=>?_)|split))
 exact UY _ fun a b=>by have:=Sl.dV (f:=Z8.sz) b; omega
theorem UZ (l:List Z6) (h:∀a∈l,a.sz<=1048576):Ok (k9 l):=by
 induction l with
 | nil=>exact bg.some _
 | cons x r b =>
  have h1:=h x List.mem_cons_self; have p:=x.bM; have q:=x.aJ.pR;have s:Z6.zero.aJ.aK.l.length<=1048576:=by decide
  rw [k9];simp only [on];cases eE x.ai<;>simp only [Bool.not_true,Bool.not_false,cond_true,cond_false,Bool.or_false,Bool.or_true,Bool.true_or,Bool.false_or]
  ·simp [aN]; exact bg.some _
  ·obtain⟨f,g⟩:=JQ x.aO (by omega);obtain⟨i,j⟩:=JJ x.aJ (by omega);obtain⟨k,m⟩:=yM x.ck (by omega);have hr:=b fun y o=>h y (List.mem_cons_of_mem _ o);cases f<;>cases i<;>cases k<;>simp [aN,g,j,m]<;>first|exact bg.some _|exact hr
theorem U0 (s:Sl Z6) (h:Sl.sz Z6.sz s<=1048576):Ok (jW s):=by
 unfold jW
 (repeat' (first|exact bg.some _|assumption|(with_reducible refine bg.bind ?_ fun _ _=>?_)|(with_reducible refine bg.guard (fun _=>?_) fun _ _ _=>?_)|(with_reducible refine bg.cond (fun _=>?_) fun _=>?_)|(with_reducible refine bg.on fun _ _=>?_)|split))
 exact UZ _ fun a b=>by have:=Sl.dV (f:=Z6.sz) b; omega
theorem U1 (b:Bool) (l:List Z9) (h:∀a∈l,a.sz<=1048576):Ok (oI b l):=by
 induction l with
 | nil=>exact bg.some _
 | cons x r f =>
  have h1:=h x List.mem_cons_self; have j:=x.bM;rw [oI];simp only [on];cases eE x.ai<;>simp only [Bool.not_true,Bool.not_false,cond_true,cond_false,Bool.or_false,Bool.or_true,Bool.true_or,Bool.false_or]
  ·simp [aN]; exact bg.some _
  ·obtain⟨k,g⟩:=yM x.ck (by omega);have hr:=f fun y i=>h y (List.mem_cons_of_mem _ i);simp only [aN,g,if_true,oB]
   (repeat' (first|exact bg.some _|assumption|(with_reducible refine bg.bind ?_ fun _ _=>?_)|(with_reducible refine bg.guard (fun _=>?_) fun _ _ _=>?_)|(with_reducible refine bg.cond (fun _=>?_) fun _=>?_)|(with_reducible refine bg.on fun _ _=>?_)|split))
theorem U2 (s:Sl Z9) (b:Bool) (h:Sl.sz Z9.sz s<=1048576):Ok (k_ s b):=by
 unfold k_
 (repeat' (first|exact bg.some _|assumption|(with_reducible refine bg.bind ?_ fun _ _=>?_)|(with_reducible refine bg.guard (fun _=>?_) fun _ _ _=>?_)|(with_reducible refine bg.cond (fun _=>?_) fun _=>?_)|(with_reducible refine bg.on fun _ _=>?_)|split))
 exact U1 _ _ fun a g=>by have:=Sl.dV (f:=Z9.sz) g; omega
theorem U3 (x:ax) (h:x.sz<=1048576):Ok (hG x):=by
 have b:=x.bM;unfold hG
 (repeat' (first|exact bg.some _|assumption|(with_reducible refine bg.bind ?_ fun _ _=>?_)|(with_reducible refine bg.guard (fun _=>?_) fun _ _ _=>?_)|(with_reducible refine bg.cond (fun _=>?_) fun _=>?_)|(with_reducible refine bg.on fun _ _=>?_)|split))
 all_goals first|exact yM _ (by omega)|exact U0 _ (by omega)|exact U2 _ _ (by omega)|exact JQ _ (by omega)
theorem U4 (l:List ax) (h:∀a∈l,a.sz<=1048576):Ok (lm l):=by
 induction l with
 | nil=>exact bg.some _
 | cons x r b =>
  rw [lm]
  (repeat' (first|exact bg.some _|assumption|(with_reducible refine bg.bind ?_ fun _ _=>?_)|(with_reducible refine bg.guard (fun _=>?_) fun _ _ _=>?_)|(with_reducible refine bg.cond (fun _=>?_) fun _=>?_)|(with_reducible refine bg.on fun _ _=>?_)|split))
  ·subst_vars; exact U3 _ (h _ List.mem_cons_self)
  ·exact b fun y f=>h y (List.mem_cons_of_mem _ f)
theorem aq.vJ {d:aq}{x:ax}(h:x∈d.aA.l):x.sz<=d.sz:=by have:=d.bM; have:=Sl.dV (f:=ax.sz) h; omega
theorem PG (d:aq) (h:d.sz<=1048576):Ok (iA d):=by
 unfold iA
 (repeat' (first|exact bg.some _|assumption|(with_reducible refine bg.bind ?_ fun _ _=>?_)|(with_reducible refine bg.guard (fun _=>?_) fun _ _ _=>?_)|(with_reducible refine bg.cond (fun _=>?_) fun _=>?_)|(with_reducible refine bg.on fun _ _=>?_)|split))
 exact U4 _ fun a b=>by have:=aq.vJ b; omega
section
variable {α κ γ:Type} [BEq κ] [LawfulBEq κ]
def gR (key:α->κ) (A:List α):Prop:=A.Pairwise fun x y=>key x≠key y
end
section
variable {α κ γ:Type} [BEq κ] [LawfulBEq κ]
omit [LawfulBEq κ] in
end
end Go.Proofs
namespace Go.Proofs
open Go Go.Ab
def Pf (o:Option (Sl Z5)) (s:List Z5) (P:Prop):Prop:=∀r,o=some r->(s≠[]->r.l≠[])/\(r.l=[]->P)
theorem Pf.pure {u:Sl Z5}{P:Prop}(h:P):Pf (some u) u.l P:=fun r e=>by cases e; exact⟨fun h=>h,fun _=>h⟩
theorem Pf.imp {o:Option (Sl Z5)}{s:List Z5}{P Q:Prop}(h:Pf o s P) (hi:P->Q):Pf o s Q:=fun r e=>⟨(h r e).1,fun b=>hi ((h r e).2 b)⟩
theorem Pf.none (s:List Z5) (P:Prop):Pf Option.none s P:=fun r e=>(by cases e)
theorem Pf.bind {o:Option (Sl Z5)}{f:Sl Z5->Option (Sl Z5)}{s:List Z5}{P Q:Prop}(h:Pf o s P) (i:∀u:Sl Z5,Pf (f u) u.l Q):Pf (o.bind f) s (P/\Q):=fun r e=>by
 cases b:o with
 | none=>rw [b] at e; cases e
 | some u =>
  rw [b] at e;have h1:=h u b;have g:=i u r e;refine⟨fun j=>g.1 (h1.1 j),fun hr=>⟨h1.2 ?_,g.2 hr⟩⟩;exact Classical.byContradiction fun hc=>g.1 hc hr
theorem Pf.skip {α:Type}{o:Option α}{f:α->Option (Sl Z5)}{s:List Z5}{Q:Prop}(g:∀u,o=some u->Pf (f u) s Q):Pf (o.bind f) s Q:=fun r e=>by
 cases b:o with
 | none=>rw [b] at e; cases e
 | some u=>rw [b] at e; exact g u b r e
theorem Pf.guard {α:Type}{c:Bool}{o:Option α}{d:α}{f:α->Option (Sl Z5)}{s:List Z5}{Q:Prop}(g:∀u,(c=true->o=some u)->Pf (f u) s Q):Pf (aN c o d f) s Q:=by
 cases c
 ·exact g d fun h=>(by cases h)
 ·intro r e;cases b:o with
  | none=>rw [b] at e; cases e
  | some u=>rw [b] at e; exact g u (fun _=>b) r e
theorem JR {α:Type}{z:Nat}{s r u:Sl α}(h:aZ z s r=some u):u.l=s.l++r.l:=by
 unfold aZ at h
 split at h
 ·cases h; rfl
 ·cases h
theorem Pf.add (u:Sl Z5) (b:Bool) (x:Z5) (P:Prop):Pf (aZ 24 u ⟨b,[x]⟩) u.l P:=fun r e=>by
 have:=JR e;rw [this];exact⟨fun _=>by simp,fun h=>by simp at h⟩
theorem Pf.id {o:Option (Sl Z5)}{s:List Z5}{P:Prop}(h:Pf o s P):Pf (o.bind fun x=>some x) s P:=fun r e=>by
 cases b:o with
 | none=>rw [b] at e; cases e
 | some u=>rw [b] at e; cases e; exact h _ b
theorem Pf.yN {o:Option (Sl Z5)}{P:Prop}(s:Sl Z5) (h:Pf o [] P):Pf (o.bind fun x=>aZ 24 s x) s.l P:=fun r e=>by
 cases b:o with
 | none=>rw [b] at e; cases e
 | some u =>
  rw [b] at e;have h1:=JR e;rw [h1];exact⟨fun f=>by simp [f],fun g=>(h u b).2 (List.append_eq_nil_iff.1 g).2⟩
theorem Pf.yO {o:Option (Sl Z5)}{k:Sl Z5->Option (Sl Z5)}{P Q:Prop}(s:Sl Z5) (h:Pf o [] P) (hk:∀u:Sl Z5,Pf (k u) u.l Q):Pf (o.bind fun x=>(aZ 24 s x).bind k) s.l (P/\Q):=by
 have:=(Pf.yN s h).bind hk
 rwa [Option.bind_assoc] at this
def Gn {α:Type}(key:α->Bs) (l:List α) (j:Nat):Prop:=∀x,l[j]?=some x->∀m y,m<j->l[m]?=some y->key y≠key x
theorem Ed {α:Type}{key:α->Bs}{l:List α}(h:∀j,Gn key l j):gR key l:=by
 unfold gR;rw [List.pairwise_iff_getElem];intro i j hi b f;exact h j _ (List.getElem?_eq_getElem b) i _ f (List.getElem?_eq_getElem hi)
theorem JS {α:Type}{key:α->Bs}{l:List α}{j:Nat}(h:∀x,l[j]?=some x->((l.take j).any fun y=>key y==key x)=false):Gn key l j:=fun x b m y hm f e=>by
 have h1:=h x b;rw [List.any_eq_false] at h1;have g:y∈l.take j:=by
  have:(l.take j)[m]?=some y:=by rw [List.getElem?_take_of_lt hm]; exact f
  exact List.mem_of_getElem? this
 exact h1 y g (beq_iff_eq.mpr e)
theorem Ee (n:Bs) (bad before:Bool) (a:Bs):Pf (j9 n bad before a) [] (before=false):=by
 unfold j9;refine Pf.guard fun u _=>?_;refine(Pf.bind (P:=True) (Q:=before=false) ?_ fun u=>?_).imp And.right
 ·cases (bad||!u)
  ·exact Pf.pure (u:=(Sl.nil:Sl Z5)) trivial
  ·exact(Pf.add (Sl.nil:Sl Z5) _ _ _).id
 ·refine Pf.id ?_;cases before
  ·exact Pf.pure rfl
  ·exact(Pf.add _ _ _ _).id
theorem JT (n:Bs):∀l:List Z8,(match lp n l with|.inl _=>false|.inr e=>e.2)=l.any fun y=>y.ai==n
 | []=>rfl
 | a::r=>by
  rw [lp,List.any_cons];simp only [Ab.on];cases a.ai==n
  ·exact JT n r
  ·rfl
theorem U5 (s:Sl Z8) (n:Bs):(iI s n).2=s.l.any fun y=>y.ai==n:=by
 rw [<- JT];unfold iI;simp only [Ab.on];cases lp n s.l<;>rfl
theorem JU (n:Bs):∀l:List Z6,(match iK n l with|.inl _=>false|.inr e=>e.2)=l.any fun y=>y.ai==n
 | []=>rfl
 | a::r=>by
  rw [iK,List.any_cons];simp only [Ab.on];cases a.ai==n
  ·exact JU n r
  ·rfl
theorem U6 (t:ax) (n:Bs):(gm t n).2=t.bC.l.any fun y=>y.ai==n:=by
 rw [<- JU];unfold gm;simp only [Ab.on];cases iK n t.bC.l<;>rfl
theorem yP {α:Type}{l r:List α}{i:Nat}{x:α}(h:l.drop i=x::r):l[i]?=some x/\l.drop (i+1)=r:=by
 have hi:i<l.length:=by
  rcases Nat.lt_or_ge i l.length with c|c
  ·exact c
  ·rw [List.drop_of_length_le c] at h; cases h
 rw [List.drop_eq_getElem_cons hi] at h;simp only [List.cons.injEq] at h;exact⟨by rw [List.getElem?_eq_getElem hi,h.1],h.2⟩
theorem vK {α:Type}{l:List α}{i j:Nat}(h:l.drop i=[]) (b:i<=j):l[j]?=none:=List.getElem?_eq_none (by have:=congrArg List.length h; simp at this; omega)
theorem JV (d:aq) (a1:Sl Z8) (p q:Bs):∀(l:List Z8) (i:Nat) (s:Sl Z5),a1.l.drop i=l->Pf (jx d a1 p q l i s) s.l (∀j,i<=j->Gn Z8.ai a1.l j)
 | [],i,s,h=>by
  rw [jx];exact Pf.pure fun j f x b=>by rw [vK h f] at b; cases b
 | a::r,i,s,h=>by
  obtain⟨h1,k⟩:=yP h;rw [jx];simp only [Ab.on];refine Pf.skip fun t _=>Pf.skip fun t _=>?_;refine(Pf.yO (Q:=∀j,i+1<=j->Gn Z8.ai a1.l j) s (Ee _ _ _ _) fun u=>?_).imp fun⟨g,z2⟩ j f=>?_
  ·refine(Pf.bind (P:=True) ?_ fun u=>JV d a1 p q r (i+1) u k).imp And.right;cases nD d a.aJ.ai
   ·exact(Pf.add _ _ _ _).id
   ·cases iJ d a.aJ.ai
    ·exact(Pf.add _ _ _ _).id
    ·exact Pf.pure trivial
  ·rcases Nat.lt_or_ge i j with c|c
   ·exact z2 j c
   ·obtain rfl:j=i:=by omega
    rw [U5] at g;exact JS fun x b=>by rw [h1] at b; cases b; exact g
theorem JW (d:aq) (a1:Sl Z8) (p q:Bs):Pf (j_ d a1 p q) [] (gR Z8.ai a1.l):=by
 unfold j_;exact((JV d a1 p q a1.l 0 Sl.nil rfl).imp fun h=>Ed fun j=>h j (Nat.zero_le j)).id
theorem JX (d:aq) (t:ax):∀(l:List Z6) (i:Nat) (s:Sl Z5),t.bC.l.drop i=l->Pf (iL d t l i s) s.l (∀j,i<=j->Gn Z6.ai t.bC.l j/\∀x,t.bC.l[j]?=some x->gR Z8.ai x.aO.l)
 | [],i,s,h=>by
  rw [iL];exact Pf.pure fun j f=>⟨fun x b=>(by rw [vK h f] at b; cases b),fun x b=>(by rw [vK h f] at b; cases b)⟩
 | a::r,i,s,h=>by
  obtain⟨h1,k⟩:=yP h;rw [iL];simp only [Ab.on];refine Pf.skip fun t1 _=>Pf.skip fun t2 _=>?_;refine(Pf.yO (Q:=gR Z8.ai a.aO.l/\∀j,i+1<=j->Gn Z6.ai t.bC.l j/\∀x,t.bC.l[j]?=some x->gR Z8.ai x.aO.l) s (Ee _ _ _ _) fun u=>?_).imp fun⟨g,z2,z3⟩ j f=>?_
  ·refine(Pf.bind (P:=True) ?_ fun u=>?_).imp And.right
   ·cases nD d a.aJ.ai
    ·exact(Pf.add _ _ _ _).id
    ·rw [Bool.not_true,cond_false];generalize (((!iS a.aJ.ai)&&(cU d a.aJ.ai).2)&&(decide ((cU d a.aJ.ai).1.an=(5:Int))))=c;cases c
     ·exact Pf.pure trivial
     ·exact(Pf.add _ _ _ _).id
   ·refine Pf.skip fun t3 _=>?_;exact Pf.yO u (JW _ _ _ _) fun u=>JX d t r (i+1) u k
  ·rcases Nat.lt_or_ge i j with c|c
   ·exact z3 j c
   ·obtain rfl:j=i:=by omega
    rw [U6] at g;exact⟨JS fun x b=>(by rw [h1] at b; cases b; exact g),fun x b=>(by rw [h1] at b; cases b; exact z2)⟩
theorem U7 (d:aq) (t:ax):Pf (oU d t) [] (gR Z6.ai t.bC.l/\∀x∈t.bC.l,gR Z8.ai x.aO.l):=by
 unfold oU;refine((JX d t t.bC.l 0 Sl.nil rfl).imp fun h=>⟨Ed fun j=>(h j (Nat.zero_le j)).1,fun x b=>?_⟩).id;obtain⟨j,f,rfl⟩:=List.mem_iff_getElem.1 b;exact(h j (Nat.zero_le j)).2 _ (List.getElem?_eq_getElem f)
theorem U8 {a b c:Int}(h:bG a b=some c):c=a+b:=by
 unfold bG at h
 split at h
 ·cases h; rfl
 ·cases h
theorem JY (d:aq) (t:ax) (s:Sl Z5):Pf (oQ d t s) s.l True:=by
 unfold oQ sM;refine Pf.skip fun c _=>?_;cases c
 ·exact Pf.pure trivial
 ·exact(Pf.add _ _ _ _).id
theorem JZ (d:aq) (t:ax) (s:Sl Z5):Pf (oS d t s) s.l True:=by
 unfold oS;generalize (((((((t.ai==([81,117,101,114,121]:Bs)))||((t.ai==([77,117,116,97,116,105,111,110]:Bs))))||((t.ai==([83,117,98,115,99,114,105,112,116,105,111,110]:Bs))))&&(!decide (t.an=(1:Int))))||(decide (t.an<(1:Int))))||(decide ((5:Int)<t.an)))=c;cases c
 ·exact JY d t s
 ·exact(Pf.bind (P:=True) (Pf.add _ _ _ _) fun u=>JY d t u).imp fun _=>trivial
theorem U9 (d:aq) (t:ax) (b:Bool):Pf (qE d t b) [] (b=false):=by
 unfold qE;rw [uO];refine(Pf.bind (Q:=True) (Ee _ _ _ _) fun u=>?_).imp And.left;refine Pf.skip fun c _=>?_;cases c
 ·exact JZ d t u
 ·exact(Pf.bind (P:=True) (Pf.add _ _ _ _) fun u=>JZ d t u).imp fun _=>trivial
theorem J1 (d:aq) (t:ax) (i:Nat):∀(n k:Nat) (b:Bool),Pf (nC d (i:Int) t n b (k:Int)) [] (b=false/\∀m y,k<=m->m<i->d.aA.l[m]?=some y->y.ai≠t.ai)
 | 0,k,b=>by rw [nC]; exact Pf.none _ _
 | n+1,k,b=>by
  rw [nC];by_cases hk:k<i
  ·rw [dT (by omega:((k:Nat):Int)<((i:Nat):Int)),cond_true];refine Pf.guard fun x j=>Pf.skip fun k' o=>?_;have e:k'=((k+1:Nat):Int):=by rw [U8 o]; omega
   rw [e];refine(J1 d t i n (k+1) (b||x.ai==t.ai)).imp fun⟨h1,p⟩=>?_;rw [Bool.or_eq_false_iff] at h1;refine⟨h1.1,fun m y m1 m2 g=>?_⟩;rcases Nat.lt_or_ge k m with c|c
   ·exact p m y c m2 g
   ·obtain rfl:m=k:=by omega
    have f:=j (by rw [h1.1]; rfl);unfold bV at f;rw [if_pos (by omega),Int.toNat_natCast,g] at f;cases f;exact beq_eq_false_iff_ne.1 h1.2
  ·rw [dF (by omega:¬((k:Nat):Int)<((i:Nat):Int)),cond_false];exact(U9 d t b).imp fun h=>⟨h,fun m y m1 m2=>by omega⟩
theorem U_ (d:aq) (i:Nat):Pf (uS d (i:Int)) [] (Gn ax.ai d.aA.l i):=by
 unfold uS qF;refine Pf.skip fun x f=>Pf.skip fun b _=>?_;refine(J1 d x i F0 0 b).imp fun⟨_,g⟩=>?_;intro z j m y hm k;unfold bV at f;rw [if_pos (by omega),Int.toNat_natCast,j] at f;cases f;exact g m y (Nat.zero_le m) hm k
def vL (t:ax):Prop:=(t.an=1\/t.an=2->gR Z6.ai t.bC.l/\∀x∈t.bC.l,gR Z8.ai x.aO.l)/\(t.an=5->gR Z8.ai t.bl.l)
theorem J2 (d:aq):∀(l:List ax) (i:Nat) (s:Sl Z5),d.aA.l.drop i=l->Pf (jy d l i s) s.l (∀j,i<=j->Gn ax.ai d.aA.l j/\∀x,d.aA.l[j]?=some x->vL x)
 | [],i,s,h=>by
  rw [jy];exact Pf.pure fun j g=>⟨fun x b=>(by rw [vK h g] at b; cases b),fun x b=>(by rw [vK h g] at b; cases b)⟩
 | a::r,i,s,h=>by
  obtain⟨h1,m⟩:=yP h;rw [jy];simp only [Ab.on];refine(Pf.yO (Q:=vL a/\∀j,i+1<=j->Gn ax.ai d.aA.l j/\∀x,d.aA.l[j]?=some x->vL x) s (U_ d i) fun u=>?_).imp fun⟨p,z2,z3⟩ j g=>?_
  ·refine Pf.bind ?_ fun u=>J2 d r (i+1) u m;have q:(bif (decide (a.an=(1:Int))) then((decide (a.an=(1:Int)))) else((decide (a.an=(2:Int)))))=decide (a.an=1\/a.an=2):=by
    by_cases c1:a.an=1<;>by_cases c2:a.an=2<;>simp [c1,c2]
   rw [q];by_cases f:a.an=1\/a.an=2
   ·rw [dT f,cond_true];have:=(Pf.yN u (U7 d a)).id;rw [Option.bind_assoc] at this;exact this.imp fun h=>⟨fun _=>h,fun v=>by omega⟩
   ·rw [dF f,cond_false];by_cases k:a.an=4
    ·rw [dT k,cond_true];have:=(Pf.yN (P:=True) u (o:=qH a) fun r _=>⟨fun h=>absurd rfl h,fun _=>trivial⟩).id;rw [Option.bind_assoc] at this;exact this.imp fun _=>⟨fun h=>absurd h f,fun v=>by omega⟩
    ·rw [dF k,cond_false];by_cases c5:a.an=5
     ·rw [dT c5,cond_true];refine Pf.skip fun t _=>?_;have:=(Pf.yN u (JW d a.bl t [])).id;rw [Option.bind_assoc] at this;exact this.imp fun h=>⟨fun h=>absurd h f,fun _=>h⟩
     ·rw [dF c5,cond_false];exact Pf.pure ⟨fun h=>absurd h f,fun h=>absurd h c5⟩
  ·rcases Nat.lt_or_ge i j with c|c
   ·exact z3 j c
   ·obtain rfl:j=i:=by omega
    exact⟨p,fun x b=>by rw [h1] at b; cases b; exact z2⟩
theorem PM {d:aq}{b:Bool}{r:Sl Z5}(h:nE d b=some r) (hr:r.l=[]):gR ax.ai d.aA.l/\∀t∈d.aA.l,vL t:=by
 have g:Pf (nE d b) [] (∀j,0<=j->Gn ax.ai d.aA.l j/\∀x,d.aA.l[j]?=some x->vL x):=by
  unfold nE;simp only [Ab.on];refine(Pf.bind (Q:=True) (J2 d d.aA.l 0 Sl.nil rfl) fun u=>?_).imp And.left;refine Pf.id ?_;generalize (b&&(!(cU d ([81,117,101,114,121]:Bs)).2))=c;cases c
  ·exact Pf.pure trivial
  ·exact(Pf.add _ _ _ _).id
 have f:=(g r h).2 hr;refine⟨Ed fun j=>(f j (Nat.zero_le j)).1,fun t ht=>?_⟩;obtain⟨j,i,rfl⟩:=List.mem_iff_getElem.1 ht;exact(f j (Nat.zero_le j)).2 _ (List.getElem?_eq_getElem i)
theorem eT {α:Type}{c:Bool}{a b:Option α}{z:α}(h:cond c a b=some z):(c=true/\a=some z)\/(c=false/\b=some z):=by cases c; exact .inr ⟨rfl,h⟩; exact .inl ⟨rfl,h⟩
theorem fp {α β:Type}{c:Bool}{o:Option α}{d:α}{k:α->Option β}{z:β}(h:aN c o d k=some z):(c=true/\∃v,o=some v/\k v=some z)\/(c=false/\k d=some z):=by
  cases c
  · exact .inr ⟨rfl,h⟩
  · cases b:o with
    | none=>rw [b] at h; cases h
    | some v=>rw [b] at h; exact .inl ⟨rfl,v,rfl,h⟩
theorem Ef (l:List Bs) (y:Bool) (h:lg l=Sum.inr y):y=false:=by
  induction l with
  | nil=>cases h
  | cons a r b =>
    rw [lg] at h;simp only [Ab.on] at h
    revert h
    cases (!eE a) with
    | true=>intro h; exact(Sum.inr.inj h).symm
    | false=>exact b
theorem U' (l:List ax) (z:Unit ⊕ Bool) (h:lm l=some z):(z=Sum.inl ()/\∀x∈l,hG x=some true)\/z=Sum.inr false:=by
  induction l generalizing z with
  | nil=>rw [lm] at h; exact .inl ⟨(oJ h).symm,fun a f=>by cases f⟩
  | cons a r i =>
    rw [lm] at h;simp only [Ab.on] at h;obtain⟨x,g,h⟩:=gA h;cases x with
    | false=>simp at h; exact .inr h.symm
    | true =>
      simp only [Bool.not_true,cond_false] at h;rcases i z h with ⟨h1,j⟩|h1
      · exact .inl ⟨h1,fun y b=>by rcases List.mem_cons.1 b with rfl|b; exact g; exact j y b⟩
      · exact .inr h1
theorem xk {d:aq}(h:iA d=some true):∀x∈d.aA.l,hG x=some true:=by
  unfold iA at h;rcases eT h with ⟨_,h⟩|⟨_,h⟩
  · cases h
  · obtain⟨z,g,h⟩:=gA h
    rcases U' _ _ g with ⟨_,h1⟩|rfl
    · exact h1
    · cases h
theorem PN {t:ax}(h:hG t=some true):((t.an=1\/t.an=2)\/t.bC.l=[])/\(t.an=5\/t.bl.l=[]):=by
  unfold hG at h;simp only [Ab.on] at h;rcases fp h with ⟨_,b,_,h⟩|⟨_,h⟩<;>rcases eT h with ⟨_,h⟩|⟨_,h⟩;all_goals first
    | (cases h; done)
    | (cases e:lg t.bU.l with
       | inr y=>rw [e] at h; have:=Ef _ _ e; subst this; cases h
       | inl _ =>
         rw [e] at h;simp only at h;rcases eT h with ⟨k1,h⟩|⟨_,h⟩
         · obtain⟨f,_,h⟩:=gA h
           simp at h k1;exact⟨.inl (.inl k1),.inr h.2⟩
         · rcases eT h with ⟨k1,h⟩|⟨_,h⟩
           · rcases fp h with ⟨_,x,_,h⟩|⟨_,h⟩
             · simp at h k1; exact⟨.inl (.inr k1),.inr h.2⟩
             · simp at h
           · rcases eT h with ⟨_,h⟩|⟨_,h⟩
             · rcases fp h with ⟨_,x,_,h⟩|⟨_,h⟩
               · simp at h; exact⟨.inr h.1.1.2,.inr h.2⟩
               · simp at h
             · rcases eT h with ⟨_,h⟩|⟨_,h⟩
               · rcases fp h with ⟨_,x,_,h⟩|⟨_,h⟩
                 · simp at h; exact⟨.inr h.1.1.2,.inr h.2⟩
                 · simp at h
               · rcases eT h with ⟨k1,h⟩|⟨_,h⟩
                 · rcases fp h with ⟨_,x,ex,h⟩|⟨_,h⟩
                   · simp at h k1; exact⟨.inr h.1.1.1.2,.inl k1⟩
                   · simp at h
                 · cases h)
def Tl {α:Type}(o:Option (Sl α)) (b:Nat):Prop:=∃r,o=some r/\r.l.length<=b
theorem Tl.mono {α:Type}{o:Option (Sl α)}{a b:Nat}(h:Tl o a) (f:a<=b):Tl o b:=by obtain⟨r,h1,g⟩:=h; exact⟨r,h1,by omega⟩
theorem vM {s r:Sl Z5}(h:s.l.length+r.l.length<=1073741824):∃v,aZ 24 s r=some v/\v.l.length=s.l.length+r.l.length:=⟨_,iw (by decide) (by omega),by simp⟩
theorem Tl.nU {s:Sl Z5}{x:Z5}{b:Nat}(h:s.l.length<=b) (g:b<=1000000000):Tl ((aZ 24 s (⟨false,[x]⟩:Sl Z5)).bind fun y=>some y) (b+1):=by
 obtain⟨v,h1,f⟩:=vM (s:=s) (r:=⟨false,[x]⟩) (by simp; omega);exact⟨v,by rw [h1]; rfl,by rw [f]; simp; omega⟩
theorem Tl.bind {α β:Type}{o:Option (Sl α)}{k:Sl α->Option (Sl β)}{a b:Nat}(h:Tl o a) (hk:∀r:Sl α,r.l.length<=a->Tl (k r) b):Tl (o.bind k) b:=by
 obtain⟨r,h1,f⟩:=h;rw [h1]; exact hk r f
theorem Bs.dN (s:Bs):s.length<=Bs.sz s:=Nat.le_succ _
theorem Va (s:Bs):∃v,nw s=some v:=by
 unfold nw
 match s with
 | []=>exact⟨_,rfl⟩
 | [a]=>exact⟨_,rfl⟩
 | a::b::r =>
  rw [show decide ((2:Int)<=(((a::b::r:Bs).length:Nat):Int))=true from dT (by simp only [List.length_cons]; omega)];simp only [aN,if_true,List.getElem?_cons_zero,List.getElem?_cons_succ,oB,Bool.true_and]
  split<;>exact⟨_,rfl⟩
theorem Vb (s:Bs):∃v,sF s=some v:=by
 unfold sF;simp only [Ab.on];cases eE s
 ·exact⟨_,rfl⟩
 ·obtain⟨v,hv⟩:=Va s;simp only [aN,if_true,hv];exact⟨_,rfl⟩
theorem yQ (a:Bs) (b c:Bool) (d:Bs):Tl (j9 a b c d) 2:=by
 unfold j9;obtain⟨v,hv⟩:=Vb a;have h1:∀z:Bool,Tl (bif z then((aZ 24 (Sl.nil:Sl Z5) (⟨false,[(Z5.mk (6:Int) d)]⟩:Sl Z5)).bind fun f=>some f) else(some (Sl.nil:Sl Z5))) 1:=by
  intro z;cases z
  ·exact⟨Sl.nil,rfl,by simp [Sl.nil]⟩
  ·exact Tl.nU (s:=Sl.nil) (b:=0) (Nat.le_refl _) (by omega)
 have g:∀z,Tl (Option.bind (bif z then((aZ 24 (Sl.nil:Sl Z5) (⟨false,[(Z5.mk (6:Int) d)]⟩:Sl Z5)).bind fun f=>some f) else(some (Sl.nil:Sl Z5))) fun i=>Option.bind (bif c then((aZ 24 i (⟨false,[(Z5.mk (7:Int) d)]⟩:Sl Z5)).bind fun j=>some j) else(some i)) fun k=>some k) 2:=by
  intro z;refine(h1 z).bind fun r hr=>?_;cases c
  ·exact⟨r,rfl,by omega⟩
  ·refine(Tl.nU hr (by omega)).bind fun q hq=>⟨q,rfl,by omega⟩
 cases b
 ·simp only [aN,Bool.not_false,if_true,hv,oB]; exact g _
 ·exact g true
theorem Tl.pS {s:Sl Z5}{o:Option (Sl Z5)}{a b c:Nat}{k:Sl Z5->Option (Sl Z5)}(g:s.l.length<=a) (h:Tl o b) (i:a+b<=1000000000) (hk:∀r:Sl Z5,r.l.length<=a+b->Tl (k r) c):Tl (o.bind fun x=>(aZ 24 s x).bind k) c:=by
 obtain⟨r,h1,j⟩:=h;obtain⟨v,f,m⟩:=vM (s:=s) (r:=r) (by omega);rw [h1,oB,f,oB];exact hk v (by omega)
theorem Eg (d:aq) (a1:Sl Z8) (p q:Bs) (g:p.length<=10000000) (hq:q.length<=10):∀(l:List Z8) (i:Nat) (s:Sl Z5),(∀x∈l,x.ai.length<=1048576)->s.l.length+3*l.length<=900000000->Tl (jx d a1 p q l i s) (s.l.length+3*l.length)
 | [],i,s,_,_=>⟨s,rfl,by simp⟩
 | x::l,i,s,b,j=>by
  have hn:=b x (.head _);simp only [List.length_cons] at j;rw [jx];simp only [Ab.on];rw [fG (by omega),oB,fG (by simp; omega),oB];refine Tl.pS (Nat.le_refl _) (yQ _ _ _ _) (by omega) fun r hr=>?_;have key:∀(y:Z5),Tl (Option.bind ((aZ 24 r (⟨false,[y]⟩:Sl Z5)).bind fun z=>some z) fun k=>jx d a1 p q l (i+1) k) (s.l.length+3*(l.length+1)):=by
   intro y;refine(Tl.nU hr (by omega)).bind fun v hv=>?_;exact(Eg d a1 p q g hq l (i+1) v (fun z f=>b z (.tail _ f)) (by omega)).mono (by omega)
  rw [List.length_cons];cases nD d x.aJ.ai
  ·exact key _
  ·cases iJ d x.aJ.ai
   ·exact key _
   ·exact(Eg d a1 p q g hq l (i+1) r (fun z f=>b z (.tail _ f)) (by omega)).mono (by omega)
theorem J3 (d:aq) (a1:Sl Z8) (p q:Bs) (i:p.length<=10000000) (hq:q.length<=10) (h1:Sl.sz Z8.sz a1<=1048576):Tl (j_ d a1 p q) (3*a1.l.length):=by
 unfold j_;have hl:=Sl.dN (f:=Z8.sz) a1 (fun x=>Z8.pos x);have:=Eg d a1 p q i hq a1.l 0 Sl.nil (fun x j=>by
  have b:=Sl.dV (f:=Z8.sz) j;have g:=x.bM;have k:x.ai.length<=Bs.sz x.ai:=Bs.dN _;omega) (by simp [Sl.nil]; omega)
 obtain⟨r,b,g⟩:=this;rw [b];exact⟨r,rfl,by simpa [Sl.nil] using g⟩
theorem J4 (d:aq) (a1:ax) (k:a1.ai.length<=1048576):∀(l:List Z6) (i:Nat) (s:Sl Z5),(l.map Z6.sz).sum<=1048576->s.l.length+3*(l.map Z6.sz).sum<=900000000->Tl (iL d a1 l i s) (s.l.length+3*(l.map Z6.sz).sum)
 | [],i,s,_,_=>⟨s,rfl,by simp⟩
 | x::l,i,s,m,o=>by
  simp only [List.map_cons,List.sum_cons] at m o;have q:=x.bM;have t:x.ai.length<=Bs.sz x.ai:=Bs.dN _;have u:=Sl.dN (f:=Z8.sz) x.aO (fun x=>Z8.pos x);have B:=Bs.gF x.ai;rw [iL];simp only [Ab.on];rw [fG (by simp; omega),oB,fG (by simp; omega),oB];refine Tl.pS (Nat.le_refl _) (yQ _ _ _ _) (by omega) fun r hr=>?_;have rest:∀v:Sl Z5,v.l.length<=s.l.length+3->Tl ((cR (a1.ai++[46]++x.ai) ([40]:Bs)).bind fun b=>(j_ d x.aO b ([41]:Bs)).bind fun g=>(aZ 24 v g).bind fun j=>iL d a1 l (i+1) j) (s.l.length+3*(x.sz+(l.map Z6.sz).sum)):=by
   intro v hv;rw [fG (by simp; omega),oB];refine Tl.pS hv (J3 d x.aO _ _ (by simp; omega) (by simp) (by omega)) (by omega) fun w hw=>?_;exact(J4 d a1 k l (i+1) w (by omega) (by omega)).mono (by omega)
  have key:∀(y:Z5),Tl (Option.bind ((aZ 24 r (⟨false,[y]⟩:Sl Z5)).bind fun z=>some z) fun p=>(cR (a1.ai++[46]++x.ai) ([40]:Bs)).bind fun b=>(j_ d x.aO b ([41]:Bs)).bind fun g=>(aZ 24 p g).bind fun j=>iL d a1 l (i+1) j) (s.l.length+3*(x.sz+(l.map Z6.sz).sum)):=by
   intro y;exact(Tl.nU hr (by omega)).bind fun v hv=>rest v (by omega)
  simp only [List.map_cons,List.sum_cons];cases nD d x.aJ.ai
  ·exact key _
  ·cases C:((!iS x.aJ.ai)&&(cU d x.aJ.ai).2)&&decide ((cU d x.aJ.ai).1.an=5)
   ·exact rest r (by omega)
   ·exact key _
theorem Vc (d:aq) (a1:ax) (h:a1.sz<=1048576):Tl (oU d a1) (3*a1.sz):=by
 unfold oU;have f:=a1.bM;have g:a1.ai.length<=Bs.sz a1.ai:=Bs.dN _;have i:Sl.sz Z6.sz a1.bC=1+(a1.bC.l.map Z6.sz).sum:=rfl;obtain⟨r,h1,b⟩:=J4 d a1 (by omega) a1.bC.l 0 Sl.nil (by omega) (by simp [Sl.nil]; omega);rw [h1];exact⟨r,rfl,by simp [Sl.nil] at b; omega⟩
theorem Eh (a:ax) (x:Z9):∀(n i:Nat) (b:Bool),i+n<=a.bI.l.length->∃v,oV a x n i b=some v
 | 0,_,b,_=>⟨b,rfl⟩
 | n+1,i,b,h=>by
  rw [oV];cases b
  ·simp only [aN,Bool.not_false,if_true];rw [List.getElem?_eq_getElem (show i<a.bI.l.length by omega),oB];exact Eh a x n (i+1) _ (by omega)
  ·simp only [aN,Bool.not_true];exact Eh a x n (i+1) _ (by omega)
theorem J5 (a:ax) (f:a.ai.length<=1048576):∀(l:List Z9) (i:Nat) (s:Sl Z5),(∀x∈l,x.ai.length<=1048576)->i+l.length=a.bI.l.length->s.l.length+2*l.length<=900000000->Tl (lX a l i s) (s.l.length+2*l.length)
 | [],i,s,_,_,_=>⟨s,rfl,by simp⟩
 | x::l,i,s,b,hi,g=>by
  have hn:=b x (.head _);simp only [List.length_cons] at g hi;rw [lX];simp only [Ab.on];obtain⟨v,hv⟩:=Eh a x i 0 false (by omega);rw [hv,oB,fG (by simp; omega),oB,fG (by simp; omega),oB];refine Tl.pS (Nat.le_refl _) (yQ _ _ _ _) (by omega) fun r hr=>?_;exact(J5 a f l (i+1) r (fun z j=>b z (.tail _ j)) (by omega) (by omega)).mono (by simp only [List.length_cons]; omega)
theorem Vd (a:ax) (h:a.sz<=1048576):Tl (qH a) (3*a.sz):=by
 unfold qH;have i:=a.bM;have j:a.ai.length<=Bs.sz a.ai:=Bs.dN _;have k:=Sl.dN (f:=Z9.sz) a.bI (fun x=>Z9.pos x);obtain⟨r,h1,b⟩:=J5 a (by omega) a.bI.l 0 Sl.nil (fun x g=>by
  have m:=Sl.dV (f:=Z9.sz) g;have o:=x.bM;have p:x.ai.length<=Bs.sz x.ai:=Bs.dN _;omega) (by simp) (by simp [Sl.nil]; omega)
 rw [h1];exact⟨r,rfl,by simp [Sl.nil] at b; omega⟩
def left (b s:List Bs):Nat:=(b.filter fun x=>!s.contains x).length
theorem Ve {f s:List Bs}{x:Bs}(i:x∈f) (j:s.contains x=false):left f (s++[x])+1<=left f s:=by
 have mono:∀l:List Bs,(l.filter fun y=>!(s++[x]).contains y).length<=(l.filter fun y=>!s.contains y).length:=by
  intro l;induction l with
  | nil=>simp
  | cons a r k =>
   have m:s.contains a=true->(s++[x]).contains a=true:=by
    intro h;simp only [List.contains_eq_mem,decide_eq_true_eq,List.mem_append] at h ⊢;exact .inl h
   cases h1:s.contains a
   ·cases g:(s++[x]).contains a
    ·rw [List.filter_cons_of_pos (by rw [g]; rfl),List.filter_cons_of_pos (by rw [h1]; rfl)];simp only [List.length_cons]; omega
    ·rw [List.filter_cons_of_neg (by rw [g]; decide),List.filter_cons_of_pos (by rw [h1]; rfl)];simp only [List.length_cons]; omega
   ·rw [List.filter_cons_of_neg (by rw [m h1]; decide),List.filter_cons_of_neg (by rw [h1]; decide)]; exact k
 unfold left;obtain⟨a,b,rfl⟩:=List.append_of_mem i;rw [List.filter_append,List.filter_append,List.length_append,List.length_append];have o:(s++[x]).contains x=true:=by simp
 rw [List.filter_cons_of_neg (by rw [o]; decide),List.filter_cons_of_pos (by rw [j]; rfl)];have h1:=mono a;have g:=mono b;simp only [List.length_cons]; omega
def yR (d:ax):List Bs:=d.bl.l.map fun x=>x.aJ.ai
def iX (d:aq):List Bs:=d.aA.l.flatMap yR
theorem Vf (d:aq):(iX d).length<=d.sz:=by
 have h1:=d.bM;have b:Sl.sz ax.sz d.aA=1+(d.aA.l.map ax.sz).sum:=rfl;have:∀l:List ax,(l.flatMap yR).length<=(l.map ax.sz).sum:=by
  intro l;induction l with
  | nil=>simp
  | cons a r g =>
   have i:=a.bM;have j:=Sl.dN (f:=Z8.sz) a.bl (fun x=>Z8.pos x);simp only [List.flatMap_cons,List.length_append,List.map_cons,List.sum_cons];have:(yR a).length=a.bl.l.length:=by unfold yR; rw [List.length_map]
   omega
 have:=this d.aA.l;unfold iX; omega
theorem J6:∀(l:List Bs) (x:Bs),(match ny x l with|Sum.inl _=>false|Sum.inr e=>e)=l.contains x
 | [],_=>rfl
 | a::r,x=>by
  rw [ny,List.contains_cons];simp only [Ab.on];by_cases h:a=x
  ·subst h; simp
  ·have b:(a==x)=false:=by simpa using h
   have f:(x==a)=false:=by simpa using fun e=>h e.symm
   rw [b,f,cond_false,Bool.false_or]; exact J6 r x
theorem Vg (t:az):∃b,sJ t=some b:=by
 unfold sJ;by_cases h:t.aK.l.length=1
 ·rw [show decide (((t.aK.l.length:Nat):Int)=1)=true from dT (by omega)];simp only [aN,if_true];rw [List.getElem?_eq_getElem (show 0<t.aK.l.length by omega)];exact⟨_,rfl⟩
 ·rw [show decide (((t.aK.l.length:Nat):Int)=1)=false from dF (by omega)];exact⟨_,rfl⟩
def Vs (b:List Bs) (M:Nat) (s:Sl Bs):Prop:=s.l.length+left b s.l<=M
theorem vN (d:aq) (c:Bs) (f:List Bs) (M:Nat) (g:M<=2000000):∀(l:List Z8) (s:Sl Bs),(∀x∈l,x.aJ.ai∈f)->Vs f M s->∃r,nA d c l s=some r/\Vs f M r/\s.l.length<=r.l.length
 | [],s,_,h=>⟨s,rfl,h,Nat.le_refl _⟩
 | x::l,s,j,h=>by
  have hn:=j x (.head _);have i:∀z∈l,z.aJ.ai∈f:=fun z k=>j z (.tail _ k);obtain⟨b,m⟩:=Vg x.aJ;rw [nA];simp only [Ab.on];rw [m,oB];generalize (b&&((x.aJ.ai==c)||((cU d x.aJ.ai).2&&decide ((cU d x.aJ.ai).1.an=5))))=w;have hq:sI s x.aJ.ai=s.l.contains x.aJ.ai:=by
   rw [<- J6]; unfold sI; simp only [Ab.on];all_goals (cases ny x.aJ.ai s.l<;>rfl)
  cases w
  ·exact vN d c f M g l s i h
  ·rw [cond_true,hq];cases hc:s.l.contains x.aJ.ai
   ·unfold Vs at h;have hl:=Ve hn hc;simp only [Bool.not_false,Bool.and_self,cond_true];rw [iw (by decide) (by simp; omega),oB,oB];obtain⟨r,h1,o,p⟩:=vN d c f M g l ⟨s.nl&&([x.aJ.ai]:List Bs).isEmpty,s.l++[x.aJ.ai]⟩ i (by unfold Vs; simp only [List.length_append,List.length_cons,List.length_nil]; omega);exact⟨r,h1,o,by simp only [List.length_append,List.length_cons,List.length_nil] at p; omega⟩
   ·exact vN d c f M g l s i h
theorem J7 (d:aq) (n:Bs):(cU d n).1∈d.aA.l\/(cU d n).1.bl.l=[]:=by
 unfold cU;simp only [Ab.on];have:∀l:List ax,(match gU n l with|Sum.inl _=>True|Sum.inr e=>e.1∈l):=by
  intro l;induction l with
  | nil=>exact trivial
  | cons a r b =>
   rw [gU];simp only [Ab.on];cases hq:a.ai==n
   ·simp only [cond_false]
    revert b
    cases gU n r with
    | inl u=>intro _; exact trivial
    | inr e=>intro b; exact .tail _ b
   ·exact .head _
 have h:=this d.aA.l
 revert h
 cases gU n d.aA.l with
 | inl u=>intro _; exact .inr rfl
 | inr e=>intro h; exact .inl h
theorem J8 {d:aq}{a:ax}(h:a∈d.aA.l\/a.bl.l=[]):∀x∈a.bl.l,x.aJ.ai∈iX d:=by
 intro x b;rcases h with h|h
 ·exact List.mem_flatMap.2 ⟨a,h,List.mem_map.2 ⟨x,b,rfl⟩⟩
 ·rw [h] at b; cases b
theorem J9 (d:aq) (a:ax) (f:(iX d).length<=1048576):∀(n i:Nat) (s:Sl Bs),Vs (iX d) (iX d).length s->i<=s.l.length->(iX d).length+1<=n+i->∃b,sK d a n s i=some b
 | 0,i,s,h,hi,hn=>by unfold Vs at h; omega
 | n+1,i,s,h,hi,hn=>by
  rw [sK];by_cases aY:i<s.l.length
  ·rw [show decide (((i:Nat):Int)<((s.l.length:Nat):Int))=true from dT (by omega),cond_true,List.getElem?_eq_getElem aY,oB,jv,oB,HC];unfold uP;obtain⟨r,h1,g,j⟩:=vN d a.ai (iX d) (iX d).length (by omega) _ s (J8 (J7 d s.l[i])) h;rw [h1,oB];simp only [Ab.on,oB];exact J9 d a f n (i+1) r g (by omega) (by omega)
  ·rw [show decide (((i:Nat):Int)<((s.l.length:Nat):Int))=false from dF (by omega),cond_false];unfold xz;rw [HA];exact⟨_,rfl⟩
theorem Vh {d:aq}(i:d.sz<=1048576){a:ax}(f:a∈d.aA.l):∃b,uR d a=some b:=by
 have j:=Vf d;unfold uR;cases hk:(!decide (a.an=(5:Int)))
 ·rw [cond_false,HC];unfold uP;have h0:Vs (iX d) (iX d).length Sl.nil:=by
   unfold Vs left;have:=List.length_filter_le (fun x=>!(Sl.nil:Sl Bs).l.contains x) (iX d);simp only [Sl.nil,List.length_nil] at this ⊢; omega
  obtain⟨r,h1,g,k⟩:=vN d a.ai (iX d) (iX d).length (by omega) a.bl.l Sl.nil (J8 (.inl f)) h0;rw [h1,oB];simp only [Ab.on,oB];exact J9 d a (by omega) F0 0 r g (by omega) (by rw [dM]; omega)
 ·exact⟨false,rfl⟩
theorem J_ {s:Sl Z5}{b:Nat}(h:s.l.length<=b):Tl (sM s) b:=⟨s,rfl,h⟩
theorem J' {d:aq}(f:d.sz<=1048576){a:ax}(g:a∈d.aA.l){s:Sl Z5}{b:Nat}(h:s.l.length<=b) (j:b<=1000):Tl (oQ d a s) (b+1):=by
 unfold oQ;obtain⟨v,hv⟩:=Vh f g;rw [hv,oB];cases v
 ·exact(J_ h).mono (by omega)
 ·obtain⟨w,h1,i⟩:=vM (s:=s) (r:=⟨false,[Z5.mk (5:Int) a.ai]⟩) (by simp; omega);rw [cond_true,h1,oB];exact J_ (by rw [i]; simp; omega)
theorem Ka {d:aq}(f:d.sz<=1048576){a:ax}(g:a∈d.aA.l){s:Sl Z5}{b:Nat}(h:s.l.length<=b) (j:b<=900):Tl (oS d a s) (b+2):=by
 unfold oS;generalize (((((((a.ai==([81,117,101,114,121]:Bs)))||((a.ai==([77,117,116,97,116,105,111,110]:Bs))))||((a.ai==([83,117,98,115,99,114,105,112,116,105,111,110]:Bs))))&&(!decide (a.an=(1:Int))))||(decide (a.an<(1:Int))))||(decide ((5:Int)<a.an)))=w;cases w
 ·exact(J' f g h (by omega)).mono (by omega)
 ·obtain⟨w,h1,i⟩:=vM (s:=s) (r:=⟨false,[Z5.mk (9:Int) a.ai]⟩) (by simp; omega);rw [cond_true,h1,oB];exact(J' (b:=b+1) f g (by rw [i]; simp; omega) (by omega)).mono (by omega)
theorem Vi {d:aq}(f:d.sz<=1048576){a:ax}(g:a∈d.aA.l) (t:Bool):Tl (qE d a t) 5:=by
 unfold qE;rw [uO];refine(yQ _ _ _ _).bind fun r hr=>?_;rw [P8,oB];cases xu a
 ·exact(Ka f g hr (by omega)).mono (by omega)
 ·obtain⟨w,h1,i⟩:=vM (s:=r) (r:=⟨false,[Z5.mk (8:Int) a.ai]⟩) (by simp; omega);rw [cond_true,h1,oB];exact Ka (b:=3) f g (by rw [i]; simp; omega) (by omega)
theorem Ei {d:aq}(b:d.sz<=1048576){a:ax}(f:a∈d.aA.l) (N:Nat) (g:N<=d.aA.l.length) (hl:d.aA.l.length<=1048576):∀(n i:Nat) (t:Bool),i<=N->N-i<n->Tl (nC d ((N:Nat):Int) a n t (i:Int)) 5
 | 0,_,_,_,h=>by omega
 | n+1,i,t,hi,hn=>by
  rw [nC];by_cases aY:i<N
  ·have one:bG (i:Int) 1=some (((i+1:Nat)):Int):=by rw [eH (by omega)]; rfl
   have j:bV d.aA.l (i:Int)=some (d.aA.l[i]'(by omega)):=by
    unfold bV; rw [if_pos (by omega),Int.toNat_natCast,List.getElem?_eq_getElem (show i<d.aA.l.length by omega)]
   rw [show decide ((i:Int)<((N:Nat):Int))=true from dT (by omega),cond_true,one,j];cases t
   ·exact Ei b f N g hl n (i+1) _ (by omega) (by omega)
   ·exact Ei b f N g hl n (i+1) _ (by omega) (by omega)
  ·rw [show decide ((i:Int)<((N:Nat):Int))=false from dF (by omega),cond_false];exact Vi b f t
theorem Vj {d:aq}(b:d.sz<=1048576){i:Nat}(hi:i<d.aA.l.length):Tl (uS d ((i:Nat):Int)) 5:=by
 have h1:=d.bM;have j:=Sl.dN (f:=ax.sz) d.aA (fun x=>ax.pos x);show Tl (qF d ((i:Nat):Int)) 5;unfold qF;have g:bV d.aA.l (i:Int)=some (d.aA.l[i]):=by
  unfold bV; rw [if_pos (by omega),Int.toNat_natCast,List.getElem?_eq_getElem hi]
 rw [g,oB,sC,oB];exact Ei b (List.getElem_mem hi) i (by omega) (by omega) F0 0 _ (by omega) (by rw [dM]; omega)
theorem Kc {d:aq}(j:d.sz<=1048576):∀(l:List ax) (i:Nat) (s:Sl Z5),d.aA.l.drop i=l->s.l.length+8*(l.map ax.sz).sum<=900000000->Tl (jy d l i s) (s.l.length+8*(l.map ax.sz).sum)
 | [],i,s,_,_=>⟨s,rfl,by simp⟩
 | x::l,i,s,hl,k=>by
  have hi:i<d.aA.l.length:=by
   have:=congrArg List.length hl;simp only [List.length_drop,List.length_cons] at this; omega
  have m:x∈d.aA.l:=List.mem_of_mem_drop (i:=i) (by rw [hl]; exact .head _);have p:d.aA.l.drop (i+1)=l:=by rw [<- List.drop_drop,hl]; rfl
  have h1:=Sl.dV (f:=ax.sz) m;have q:=d.bM;have t:=x.bM;have u:=Bs.dN x.ai;have y:=Bs.gF x.ai;have z:=Sl.dN (f:=Z8.sz) x.bl (fun x=>Z8.pos x);simp only [List.map_cons,List.sum_cons] at k ⊢;rw [jy];simp only [Ab.on];refine Tl.pS (Nat.le_refl _) (Vj j hi) (by omega) fun r hr=>?_;have rest:∀(o:Option (Sl Z5)),Tl o (s.l.length+5+3*x.sz)->Tl (o.bind fun v=>jy d l (i+1) v) (s.l.length+8*(x.sz+(l.map ax.sz).sum)):=by
   intro o g;refine g.bind fun v hv=>?_;exact(Kc j l (i+1) v p (by omega)).mono (by omega)
  have fin:∀{o:Option (Sl Z5)}{b:Nat},Tl o b->b<=3*x.sz->Tl (o.bind fun v=>(aZ 24 r v).bind fun w=>some w) (s.l.length+5+3*x.sz):=by
   intro o b g B;exact Tl.pS hr g (by omega) fun w hw=>⟨w,rfl,by omega⟩
  refine rest _ ?_;cases (bif decide (x.an=1) then decide (x.an=1) else decide (x.an=2))
  ·rw [cond_false];cases decide (x.an=4)
   ·rw [cond_false];cases decide (x.an=5)
    ·exact⟨r,rfl,by omega⟩
    ·rw [cond_true,fG (by simp; omega),oB];exact fin (J3 d x.bl _ _ (by simp; omega) (by simp) (by omega)) (by omega)
   ·exact fin (Vd x (by omega)) (by omega)
  ·exact fin (Vc d x (by omega)) (by omega)
theorem PI {d:aq}(f:d.sz<=1048576) (b:Bool):Tl (nE d b) 9000000:=by
 unfold nE;have j:=d.bM;have k:Sl.sz ax.sz d.aA=1+(d.aA.l.map ax.sz).sum:=rfl;refine Tl.bind (a:=8*(d.aA.l.map ax.sz).sum) ?_ fun r hr=>?_
 ·obtain⟨r,g,i⟩:=Kc f d.aA.l 0 Sl.nil rfl (by simp [Sl.nil]; omega);exact⟨r,g,by simp [Sl.nil] at i; omega⟩
 ·simp only [Ab.on];cases (b&&(!(cU d ([81,117,101,114,121]:Bs)).2))
  ·exact⟨r,rfl,by omega⟩
  ·refine(Tl.nU hr (by omega)).bind fun v hv=>⟨v,rfl,by omega⟩
theorem Ke (d:aq) (N:Nat) (f:N<d.aA.l.length) (hl:d.aA.l.length<=1048576):∀(n i:Nat),i<=N->N-i<n->∃b,pg d ((N:Nat):Int) n (i:Int)=some b
 | 0,_,_,h=>by omega
 | n+1,i,hi,hn=>by
  rw [pg];by_cases aY:i<N
  ·have one:bG (i:Int) 1=some (((i+1:Nat)):Int):=by rw [eH (by omega)]; rfl
   have h1:bV d.aA.l (i:Int)=some (d.aA.l[i]'(by omega)):=by
    unfold bV; rw [if_pos (by omega),Int.toNat_natCast,List.getElem?_eq_getElem (show i<d.aA.l.length by omega)]
   have g:bV d.aA.l ((N:Nat):Int)=some (d.aA.l[N]):=by
    unfold bV; rw [if_pos (by omega),Int.toNat_natCast,List.getElem?_eq_getElem f]
   rw [show decide ((i:Int)<((N:Nat):Int))=true from dT (by omega),cond_true,h1,g,oB,oB,one];cases ((d.aA.l[i]'(by omega)).ai==(d.aA.l[N]).ai)
   ·exact Ke d N f hl n (i+1) (by omega) (by omega)
   ·exact⟨_,rfl⟩
  ·rw [show decide ((i:Int)<((N:Nat):Int))=false from dF (by omega),cond_false];exact⟨_,rfl⟩
theorem Vk {d:aq}(hl:d.aA.l.length<=1048576){i:Nat}(hi:i<d.aA.l.length):∃b,sN d ((i:Nat):Int)=some b:=Ke d i hi hl F0 0 (by omega) (by rw [dM]; omega)
theorem Ej {d:aq}(f:d.aA.l.length<=1048576) (n:Bs) (x:ax×Bool):∀(l:List ax) (i:Nat) (s:Sl Bs),d.aA.l.drop i=l->s.l.length+l.length<=4000000->Tl (fw d n x l i s) (s.l.length+l.length)
 | [],i,s,_,_=>⟨s,rfl,by simp⟩
 | y::l,i,s,hl,j=>by
  have hi:i<d.aA.l.length:=by
   have:=congrArg List.length hl;simp only [List.length_drop,List.length_cons] at this; omega
  have g:d.aA.l.drop (i+1)=l:=by rw [<- List.drop_drop,hl]; rfl
  simp only [List.length_cons] at j ⊢;rw [fw];cases x.2
  ·exact⟨s,rfl,by omega⟩
  ·rw [cond_true];simp only [Ab.on];have same:Tl (fw d n x l (i+1) s) (s.l.length+(l.length+1)):=(Ej f n x l (i+1) s g (by omega)).mono (by omega);have more:Tl (Option.bind ((aZ 16 s (⟨false,[y.ai]⟩:Sl Bs)).bind fun k=>some k) fun v=>fw d n x l (i+1) v) (s.l.length+(l.length+1)):=by
    rw [iw (by decide) (by simp; omega),oB,oB];exact(Ej f n x l (i+1) _ g (by simp; omega)).mono (by simp; omega)
   obtain⟨b,m⟩:=Vk f hi;cases hk:decide (y.an=1)
   ·simp only [aN,Bool.not_false,Bool.not_true,Bool.true_or,cond_true,oB];exact same
   ·simp only [aN,Bool.not_true,Bool.not_false,if_true,m,oB,Bool.false_or];cases b
    ·exact same
    ·simp only [Bool.not_true,cond_false];generalize ((((decide (x.1.an=(1:Int)))&&((y.ai==n)))||((decide (x.1.an=(2:Int)))&&_))||((decide (x.1.an=(3:Int)))&&_))=w;cases w
     ·exact same
     ·exact more
theorem Vl {d:aq}(b:d.aA.l.length<=1048576) (n:Bs):Tl (kn d n) d.aA.l.length:=by
 unfold kn;simp only [Ab.on];obtain⟨r,h1,f⟩:=Ej b n (cU d n) d.aA.l 0 Sl.nil rfl (by simp [Sl.nil]; omega);rw [h1];exact⟨r,rfl,by simpa [Sl.nil] using f⟩
theorem Vm {d:aq}(f:d.aA.l.length<=1048576) (n m:Bs):∃b,sO d n m=some b:=by
 unfold sO;obtain⟨r,h1,-⟩:=Vl f m;rw [h1]; exact⟨_,rfl⟩
def Sm (x:ax):Prop:=x.bC.l.length<=1000/\x.bI.l.length<=1000/\x.bU.l.length<=1000/\x.bl.l.length<=1000/\∀f∈x.bC.l,f.aO.l.length<=1000
theorem Kf {t:az}(h:t.aK.l.length<=1048576) (h1:1<=t.aK.l.length):nG t=some ⟨t.ai,⟨false,t.aK.l.drop 1⟩⟩:=by
 unfold nG;rw [wR h1,oB,iw (by decide) (by simp; omega)];simp
theorem Ek {t:az}(h:t.aK.l.length<=1048576):∃u,kf t=some u/\u.aK.l.length<=t.aK.l.length/\(fh t=true->u.aK.l.length<t.aK.l.length):=by
 unfold kf;simp only [Ab.on];cases hn:fh t
 ·rw [cond_false,iw (by decide) (by simp; omega)];exact⟨_,rfl,by simp,fun h=>by cases h⟩
 ·have h1:1<=t.aK.l.length:=by
   unfold fh at hn;cases hw:t.aK.l with
   | nil=>rw [hw] at hn; cases hn
   | cons a r=>simp
  rw [cond_true,Kf h h1];exact⟨_,rfl,by simp,fun _=>by simp; omega⟩
theorem El {t:az}(h:t.aK.l.length<=1048576):∃u b,kg t=some (u,b)/\(b=true->u.aK.l.length<t.aK.l.length):=by
 obtain⟨u,h1,f,-⟩:=Ek h;unfold kg pe;rw [h1,oB];simp only [Ab.on,oB];cases hl:(decide ((0:Int)<((u.aK.l.length:Nat):Int))&&decide ((bif decide ((0:Int)<((u.aK.l.length:Nat):Int)) then(u.aK.l[0]?).getD 0 else 0)=2))
 ·exact⟨_,false,rfl,fun h=>by cases h⟩
 ·simp only [Bool.and_eq_true,decide_eq_true_eq] at hl;rw [Bool.not_true,cond_false,Kf (by omega) (by omega),oB];exact⟨_,true,rfl,fun _=>by simp; omega⟩
theorem yS {d:aq}(f:d.aA.l.length<=1048576):∀(n:Nat) (a b:az),a.aK.l.length<n->a.aK.l.length<=1048576->b.aK.l.length<=1048576->∃v,l6 n d a b=some v
 | 0,_,_,h,_,_=>by omega
 | n+1,a,b,hn,j,g=>by
  rw [l6];simp only [Ab.on];obtain⟨u,k,E,m⟩:=Ek j;obtain⟨w,o,F,G⟩:=Ek g;cases H:fh b
  ·rw [cond_false];cases i:fh a
   ·rw [cond_false];obtain⟨p,x,r,s⟩:=El j;obtain⟨q,y,t,B⟩:=El g;rw [r,t,oB,oB];obtain⟨z,C⟩:=Vm f a.ai b.ai;cases x
    ·cases y
     ·simp only [Bool.false_and,cond_false,Bool.not_false,Bool.true_and,Bool.and_self];cases (a.ai==b.ai)
      ·simp only [aN,Bool.not_false,if_true,C,oB]; exact⟨_,rfl⟩
      ·exact⟨_,rfl⟩
     ·exact⟨_,rfl⟩
    ·cases y
     ·exact⟨_,rfl⟩
     ·have hq:=B rfl;have I:=s rfl;obtain⟨v,hv⟩:=yS f n p q (by omega) (by omega) (by omega);simp only [Bool.and_self,cond_true,hv,oB];exact⟨_,rfl⟩
   ·rw [cond_true,k,oB];obtain⟨v,hv⟩:=yS f n u b (by have:=m i; omega) (by omega) g;rw [hv]; exact⟨_,rfl⟩
  ·rw [cond_true];cases i:fh a
   ·exact⟨_,rfl⟩
   ·obtain⟨v,hv⟩:=yS f n u w (by have:=m i; omega) (by omega) (by omega);simp only [aN,if_true,k,o,hv,oB];exact⟨_,rfl⟩
theorem Vn (a b:az):∃v,lZ a b=some v:=by
 have loop:∀(c:Sl Int) (l:List Int) (i:Nat),l.length+i<=c.l.length->∃o,lY c l i=some o:=by
  intro c l;induction l with
  | nil=>intro i _; exact⟨_,rfl⟩
  | cons x r f =>
   intro i h;simp only [List.length_cons] at h;rw [lY];simp only [Ab.on];rw [List.getElem?_eq_getElem (show i<c.l.length by omega),oB];cases (!decide (x=c.l[i]'(by omega)))
   ·exact f (i+1) (by omega)
   ·exact⟨_,rfl⟩
 have g:∃v,oZ a.aK b.aK=some v:=by
  unfold oZ;by_cases h:a.aK.l.length=b.aK.l.length
  ·rw [show (!decide (((a.aK.l.length:Nat):Int)=((b.aK.l.length:Nat):Int)))=false by rw [dT (show ((a.aK.l.length:Nat):Int)=((b.aK.l.length:Nat):Int) by omega)]; rfl,cond_false];obtain⟨o,j⟩:=loop b.aK a.aK.l 0 (by omega);rw [j];cases o<;>exact⟨_,rfl⟩
  ·rw [show (!decide (((a.aK.l.length:Nat):Int)=((b.aK.l.length:Nat):Int)))=true by rw [dF (show ¬((a.aK.l.length:Nat):Int)=((b.aK.l.length:Nat):Int) by omega)]; rfl];exact⟨_,rfl⟩
 obtain⟨v,hv⟩:=g;unfold lZ;cases (a.ai==b.ai)
 ·exact⟨_,rfl⟩
 ·simp only [aN,if_true,hv]; exact⟨_,rfl⟩
end Go.Proofs
