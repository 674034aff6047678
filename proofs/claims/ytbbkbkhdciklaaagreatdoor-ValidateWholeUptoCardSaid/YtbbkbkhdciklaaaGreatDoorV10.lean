import Derived.Test.YtbbkbkhdciklaaaGreatDoorV9
set_option maxRecDepth 100000
set_option maxHeartbeats 2000000
set_option linter.unusedVariables false
set_option linter.unusedSimpArgs false
namespace Go.Proofs
open Go Go.Ab
open aI aq ag dR fO
attribute [local irreducible] aI aH ag aq
variable {ak:bP}
variable {gK:Nat}
def uL (j:ay):List aT->Z8->(List Bs)->Option (Z8)
 | [],f,k=>some f
 | m::p,f,k=>on (m) fun b=>(cC j.aa ([46]:Bs)).bind fun q=>(cC q b.aa).bind fun g=>(El f b.aa g k).bind fun l=>(Em l.1 b.aM.aa g (0:Int)).bind fun r=>(cC g ([40]:Bs)).bind fun s=>(En r b.aG s ([41]:Bs)).bind fun t=>uL j (p) t l.2
def Ju (g:Z8) (b:ay):Option Z8:=Option.bind (uL b b.bA.l g ([]:List Bs)) fun f=>some f
def Eo (f:Z8) (b:ay):Option Z8:=Ju f b
theorem QI {j k g f r}(b:Eo j k=some r) (H:ah) (X:H g=some (.cells (Z8.cg (some f) j))) (Y:H f=some (.tok 2 j.dw.l.length)):At 152 [.d (.ptr g 0),.agg (ay.c k)] H (RT (.b_ []) (((tS H f 2 r.dw).set g (some (.cells (Z8.cg (some f) r)))))):=by
 unfold Eo Ju at b;refine AC.oW 41 [] Tryz.call152 Tryz.func152 ?_;have Z:g≠f:=fun C=>by subst C; simp_all
 refine hz ((tS H f 2 j.dw).set g (some (.cells (Z8.cg (some f) j)))) (Y4 ?_);refine sE dA.makeMap rfl (fun _ _ _ ⟨p,q,E,F,G⟩=>?_);subst E F G;obtain⟨aa,q⟩:=ah.dP q;obtain⟨ab,q⟩:=ah.dP q;refine hq (((tS H f 2 j.dw).set g (some (.cells (Z8.cg (some f) j)))).set p (some (.map (bg ([]:List Bs))))) (Y5 ?_)
 refine aV aT.c k.bA fun ad=>Y3 ?_;obtain⟨v,I,b⟩:=b5 b;refine bx (tl [0,3,4,10,11]) (fun(z:Nat×Z8×(List Bs))=>[(12,vi z.1)]) (fun z=>(((tS H f 2 z.2.1.dw).set g (some (.cells (Z8.cg (some f) z.2.1)))).set p (some (.map (bg z.2.2))))) (fun z=>k.bA.l.length-z.1) (fun z=>Option.bind (uL k (k.bA.l.drop z.1) z.2.1 z.2.2) v=some r) (0,j,([]:List Bs)) b wA ?_
 rintro ⟨w,s,J⟩ b ae K;try dsimp only at b
 refine Y3 ?_;refine ar fun af L=>?_;refine ag.bW (fun l=>Option.bind (uL k l s J) v=some r) b rfl (fun ai y t b=>?_) (fun t b=>?_)
 ·rw [uL] at b;try dsimp only at t
  have aj:=oD t;refine sk L (ar fun ak M=>Y2 ?_);obtain⟨al,N,b⟩:=vO y b;refine S (ix aT.c w N) (Y4 ?_);refine bl 6 _ rfl (kl [0,3,4,10,11,12]) ?_;refine Y3 ?_;obtain⟨am,O,b⟩:=aQ b;refine S (eN O) (Y2 ?_);obtain⟨an,P,b⟩:=aQ b;refine S (eN P) (Y8 ?_);obtain⟨m,Q,b⟩:=aQ b;refine sH (bF rfl rfl (QJ Q _ au au au)) rfl ?_
  refine hq (((tS H f 2 m.1.dw).set g (some (.cells (Z8.cg (some f) m.1)))).set p (some (.map (bg m.2)))) (Y7 ?_);obtain⟨B,R,b⟩:=aQ b;refine sH (bF rfl rfl (QK R _ au au)) rfl ?_;refine hq (((tS H f 2 B.dw).set g (some (.cells (Z8.cg (some f) B)))).set p (some (.map (bg m.2)))) (Y6 ?_);obtain⟨ao,U,b⟩:=aQ b;refine S (eN U) ?_
  obtain⟨u,W,b⟩:=aQ b;refine sH (bF rfl rfl (QL W _ au au)) rfl ?_;refine hq (((tS H f 2 u.dw).set g (some (.cells (Z8.cg (some f) u)))).set p (some (.map (bg m.2)))) (Y1 ?_);refine M _ ?_;refine Y4 ?_;exact K _ ((w+1),u,m.2) wA b (dl y)
 rw [uL] at b;have b:=ku I b;refine ag.exit ?_;repeat (first|refine eS ?_|refine eR ?_|refine eP ?_)
 obtain rfl:=oJ b;refine bR.eX ((tS H f 2 s.dw).set g (some (.cells (Z8.cg (some f) s)))) (xs:=[]) rfl ⟨rfl,rfl⟩ ?_;exact sy
def Ep (k:(List Bs)) (b:ay) (f:Z8)  (g:Bool):Option (Z8×(List Bs)):=bif g then((Eo f b).bind fun j=>some (j,(cB k b.aa))) else(none)
def Er (p:(List Bs)) (b:ay) (g:Z8)  (j:Bool):Option (Z8×(List Bs)):=(mH g j (8:Int) b.aa).bind fun k=>(mH k (((((((b.aa==([81,117,101,114,121]:Bs)))||((b.aa==([77,117,116,97,116,105,111,110]:Bs))))||((b.aa==([83,117,98,115,99,114,105,112,116,105,111,110]:Bs))))&&(!decide (b.aj=(1:Int))))||(decide (b.aj<(1:Int))))||(decide ((5:Int)<b.aj))) (9:Int) b.aa).bind fun f=>a_ ((decide (b.aj=(5:Int)))) (Es f b) false fun l=>(mH f ((decide (b.aj=(5:Int)))&&l) (5:Int) b.aa).bind fun m=>bif (decide (b.aj=(1:Int))) then(Ep p b m  (decide (b.aj=(1:Int)))) else(none)
def Et (j:(List Bs)) (b:ay) (f:Z8)  (g:Bool):Option (Z8×(List Bs)):=bif g then(Er j b f  (decide (((b.bA.l.length:Nat):Int)=(0:Int)))) else(none)
def Eu (j:Z8) (k:Int) (f:(List Bs)):Option (Z8×(List Bs)):=(dc j.Fd.aA.l k).bind fun b=>(AW b.aa).bind fun g=>a_ (!(!g)) (Ev b.aa) false fun m=>(mH j ((!g)||m) (6:Int) b.aa).bind fun p=>a_ (!(f.contains b.aa)) (xO b.aa) false fun q=>(mH p ((f.contains b.aa)||q) (7:Int) b.aa).bind fun r=>bif (decide (b.aj=(1:Int))) then(Et f b r  (decide (b.aj=(1:Int)))) else(none)
theorem QM {t v k j g c2 r}(b:Eu t v k=some r) (H:ah) (Y:H j=some (.cells (Z8.cg (some g) t))) (Z:H g=some (.tok 2 t.dw.l.length)) (ab:H c2=some (.map (bg k))):At 103 [.d (.ptr j 0),.d (.int .i64 v),.d (.map c2)] H (RT (.b_ []) ((((tS H g 2 r.1.dw).set j (some (.cells (Z8.cg (some g) r.1)))).set c2 (some (.map (bg r.2)))))):=by
 unfold Eu at b;refine AC.oW 140 [] Tryz.call103 Tryz.func103 ?_;have ad:j≠g:=fun q=>by subst q; simp_all
 have ae:c2≠g:=fun q=>by subst q; simp_all
 have af:c2≠j:=fun q=>by subst q; simp_all
 refine hz (((tS H g 2 t.dw).set j (some (.cells (Z8.cg (some g) t)))).set c2 (some (.map (bg k)))) (Y7 ?_);obtain⟨m,C,b⟩:=bO b;refine s0 (iK (f:=ay.c) (TK rfl) rfl (TK rfl) rfl rfl rfl C) rfl ?_;refine Y4 ?_;refine bl 6 _ rfl (kl [0,2]) ?_;refine Y4 ?_;obtain⟨ai,E,b⟩:=bO b;refine ck rfl rfl (Jv E) (Y3 ?_);refine cG 23 ?_;obtain⟨ak,F,b⟩:=gO b
 refine uw 24 rfl rfl rfl rfl rfl (fun hC=>Ew (F hC)) ?_;refine Y3 ?_;obtain⟨w,G,b⟩:=bO b;refine aH.sH (bF rfl rfl (p9 G _ au au)) rfl ?_;refine aH.Dh (((tS H g 2 w.dw).set j (some (.cells (Z8.cg (some g) w)))).set c2 (some (.map (bg k)))) ?_;refine Y6 ?_;refine aH.s0 (ul (TK rfl) rfl (TK rfl) (TK rfl) rfl rfl rfl rfl au) rfl ?_;refine Y2 ?_
 refine cG 36 ?_;obtain⟨al,I,b⟩:=gO b;refine uw 37 rfl rfl rfl rfl rfl (fun hC=>rY (I hC)) ?_;refine Y3 ?_;obtain⟨p,J,b⟩:=bO b;refine aH.sH (bF rfl rfl (p9 J _ au au)) rfl ?_;refine aH.Dh (((tS H g 2 p.dw).set j (some (.cells (Z8.cg (some g) p)))).set c2 (some (.map (bg k)))) ?_;refine Y5 ?_
 refine eW (mapUpdate (TK rfl) rfl (TK rfl) rfl rfl rfl rfl au (mr _ _) rfl) rfl rfl ?_;refine hq (((tS H g 2 p.dw).set j (some (.cells (Z8.cg (some g) p)))).set c2 (some (.map (bg (cB k m.aa))))) (Y4 ?_)
 refine aN (tl [0,6]) (fun(z:Bool)=>[(7,.a (.d (.bool z)))]) (fun z=>(((tS H g 2 p.dw).set j (some (.cells (Z8.cg (some g) p)))).set c2 (some (.map (bg (cB k m.aa)))))) (fun z=>Er k m p z=some r) ?_ ?_
 ·intro am K;refine Y5 ?_;refine aN (tl [0,6,7,47]) (fun(z:Bool)=>[(48,.a (.d (.bool z)))]) (fun z=>(((tS H g 2 p.dw).set j (some (.cells (Z8.cg (some g) p)))).set c2 (some (.map (bg (cB k m.aa)))))) (fun z=>Et k m p z=some r) ?_ ?_
  ·intro an L;refine Y4 ?_;refine cE b (fun M b=>?_) (fun M b=>?_)
   ·refine ag.skip ?_;exact L _ (decide (m.aj=(1:Int))) wA b
   cases b
  rintro ao b;try dsimp only at b
  unfold Et at b;refine cE b (fun N b=>?_) (fun N b=>?_)
  ·refine Y3 ?_;refine aV aT.c m.bA fun ap=>Y3 ?_;exact K _ (decide (((m.bA.l.length:Nat):Int)=(0:Int))) wA b
  cases b
 rintro ar b;try dsimp only at b
 unfold Er at b;refine Y5 ?_;obtain⟨y,O,b⟩:=bO b;refine sH (bF rfl rfl (p9 O _ au au)) rfl ?_;refine hq (((tS H g 2 y.dw).set j (some (.cells (Z8.cg (some g) y)))).set c2 (some (.map (bg (cB k m.aa))))) (Y7 ?_);refine Gk 77 ?_;refine Gk 78 ?_;refine Y3 ?_;refine Gk 82 ?_;refine Gk 83 ?_;refine Y8 ?_;refine Gk 89 ?_;refine Gk 90 ?_;refine Y3 ?_;refine Gk 94 ?_
 refine Gk 95 ?_;refine Y3 ?_;refine Gk 99 ?_;refine Gk 100 ?_;refine Y3 ?_;obtain⟨B,P,b⟩:=bO b;refine sH (bF rfl rfl (p9 P _ au au)) rfl ?_;refine hq (((tS H g 2 B.dw).set j (some (.cells (Z8.cg (some g) B)))).set c2 (some (.map (bg (cB k m.aa))))) (Y9 ?_);obtain⟨av,Q,b⟩:=gO b;refine nQ 111 112 rfl rfl (fun hC=>eV rfl rfl (QN (Q hC) _ au)) ?_
 refine Y3 ?_;obtain⟨s,R,b⟩:=bO b;refine aH.sH (bF rfl rfl (p9 R _ au au)) rfl ?_;refine aH.Dh (((tS H g 2 s.dw).set j (some (.cells (Z8.cg (some g) s)))).set c2 (some (.map (bg (cB k m.aa))))) ?_;refine Y6 ?_
 refine aN (tl [0,6,119]) (fun(z:Bool)=>[(120,.a (.d (.bool z)))]) (fun z=>(((tS H g 2 s.dw).set j (some (.cells (Z8.cg (some g) s)))).set c2 (some (.map (bg (cB k m.aa)))))) (fun z=>Ep k m s z=some r) ?_ ?_
 ·intro aw S;refine Y4 ?_;refine cE b (fun U b=>?_) (fun U b=>?_)
  ·refine ag.skip ?_;exact S _ (decide (m.aj=(1:Int))) wA b
  cases b
 rintro ax b;try dsimp only at b
 unfold Ep at b;refine cE b (fun W b=>?_) (fun W b=>?_)
 ·refine Y3 ?_;obtain⟨u,X,b⟩:=bO b;refine sH (bF rfl rfl (QI X _ au au)) rfl ?_;refine hq (((tS H g 2 u.dw).set j (some (.cells (Z8.cg (some g) u)))).set c2 (some (.map (bg (cB k m.aa))))) (Y1 ?_);repeat (first|refine eS ?_|refine eR ?_|refine eP ?_)
  obtain rfl:=oJ b;refine bR.eX (((tS H g 2 u.dw).set j (some (.cells (Z8.cg (some g) u)))).set c2 (some (.map (bg (cB k m.aa))))) (xs:=[]) rfl ⟨rfl,rfl⟩ ?_;exact(fun _ _ h=>h)
 cases b
def Ex  (b:Z8):Option (Sl Z9):=some b.dw
def Ey (j:an) (b:Bool)  (f:Z8) (k:(List Bs)):Option (Sl Z9):=(rZ j ([81,117,101,114,121]:Bs)).bind fun g=>bif (b&&(!g.2)) then(none) else(Ex   f)
def AX (f:an) (g:Bool) :Nat->Nat->Z8->(List Bs)->Option (Sl Z9)
 | 0,_,_,_=>none
 | p+1,b,j,k=>bif (decide (((b:Nat):Int)<((f.aA.l.length:Nat):Int))) then((Eu j ((b:Nat):Int) k).bind fun m=>(AX f g p) (b+1) m.1 m.2) else(Ey f g  j k)
def Ez (b:an) (f:Bool):Option (Sl Z9):=AX b f (b.aA.l.length+1) 0 (Z8.mk b Sl.nil) ([]:List Bs)
theorem QO {g q r}(b:Ez g q=some r) (H:ah) :At 54 [.agg (an.c g),.d (.bool q)] H (RT (.a (.d (Sl.d 2 Z9.c none r))) H):=by
 unfold Ez at b;refine AC.oW 41 [.tmp 4] Tryz.call54 Tryz.func54 ?_;refine Y2 ?_;refine s0 (dM (k':=2) rfl) rfl ?_;refine Y4 ?_;refine aI.tok 2 fun f U=>?_;refine sE (dA.rN rfl) rfl (fun _ _ _ ⟨k,E,u,v,y⟩=>?_);subst u v y;obtain⟨W,E⟩:=ah.dP E;refine aI.lp k _ au (fun j w cs hh hx=>tok_cell 1 2 2 hh (t:=f) au hx rfl) ?_
 refine hq ((H.set f (some (.tok 2 0))).set k (some (.cells (Z8.cg (some f) (Z8.mk g Sl.nil))))) (Y3 ?_);refine sE dA.makeMap rfl (fun _ _ _ ⟨m,s,u,v,y⟩=>?_);subst u v y;obtain⟨X,s⟩:=ah.dP s;obtain⟨Y,s⟩:=ah.dP s
 refine hq (((H.set f (some (.tok 2 0))).set k (some (.cells (Z8.cg (some f) (Z8.mk g Sl.nil))))).set m (some (.map (bg ([]:List Bs))))) (Y2 ?_);refine aN (tl [1,2,5]) (fun(z:Z8×(List Bs))=>[]) (fun z=>(((tS H f 2 z.1.dw).set k (some (.cells (Z8.cg (some f) z.1)))).set m (some (.map (bg z.2))))) (fun z=>Ey g q z.1 z.2=some r) ?_ ?_
 ·intro Z F;refine Y3 ?_;refine aV ay.c g.aA fun aa=>Y3 ?_
  refine bx (tl [1,2,5,6,16]) (fun(z:Nat×Nat×Z8×(List Bs))=>[(17,vi z.2.1)]) (fun z=>(((tS H f 2 z.2.2.1.dw).set k (some (.cells (Z8.cg (some f) z.2.2.1)))).set m (some (.map (bg z.2.2.2))))) (fun z=>z.1) (fun z=>AX g q z.1 z.2.1 z.2.2.1 z.2.2.2=some r) ((g.aA.l.length+1),0,(Z8.mk g Sl.nil),([]:List Bs)) b wA ?_;rintro ⟨B,G,I,J⟩ b ab K
  try dsimp only at b
  cases B with
  | zero=>cases b
  | succ B =>
    rw [AX] at b;refine Y3 ?_;refine ar fun ad L=>?_;refine cE b (fun C b=>?_) (fun C b=>?_)
    ·try dsimp only at C
     have ae:=oD C;refine sk L (ar fun af M=>Y9 ?_);obtain⟨p,N,b⟩:=bO b;refine sH (bF rfl rfl (QM N _ au au au)) rfl ?_;refine hq (((tS H f 2 p.1.dw).set k (some (.cells (Z8.cg (some f) p.1)))).set m (some (.map (bg p.2)))) (Y1 ?_);refine M _ ?_;refine Y4 ?_;exact K _ (B,(G+1),p.1,p.2) wA b (nS _)
    refine ag.exit ?_;exact F _ (I,J) wA b
 rintro ⟨O,P⟩ b;try dsimp only at b
 unfold Ey at b;refine aN (tl [5]) (fun(z:Z8)=>[]) (fun z=>(((tS H f 2 z.dw).set k (some (.cells (Z8.cg (some f) z)))).set m (some (.map (bg P))))) (fun z=>Ex z=some r) ?_ ?_
 ·intro ai Q;refine Y2 ?_;obtain⟨aj,R,b⟩:=bO b;refine Sc rfl rfl (iM R) (Y7 ?_);refine bl 8 _ rfl (kl [1,5,9]) ?_;refine Y4 ?_;refine Gk 32 ?_;refine Y2 ?_;refine cE b (fun S b=>?_) (fun S b=>?_)
  ·cases b
  refine ag.skip ?_;exact Q _ O wA b
 rintro ak b;try dsimp only at b
 unfold Ex at b;refine Y7 ?_;refine ag.eG 4 rfl ?_;exact rs b
def EA (b:ay) :Nat->Nat->Z0->Option Z0
 | 0,_,_=>none
 | j+1,f,g=>bif (decide (((f:Nat):Int)<((b.cN.l.length:Nat):Int))) then(none) else(some g)
def EB (f:Z0) (b:ay):Option Z0:=EA b (b.cN.l.length+1) 0 f
theorem QR {j k g b r}(f:EB j k=some r) (H:ah) (t:H g=some (.cells (Z0.cg (some b) j))) (u:H b=some (.tok 2 j.aC.l.length)):At 105 [.d (.ptr g 0),.agg (ay.c k)] H (RT (.b_ []) (((tS H b 2 r.aC).set g (some (.cells (Z0.cg (some b) r)))))):=by
 unfold EB at f;refine AC.oW 51 [] Tryz.call105 Tryz.func105 ?_;have v:g≠b:=fun s=>by subst s; simp_all
 refine hz ((tS H b 2 j.aC).set g (some (.cells (Z0.cg (some b) j)))) (Y6 ?_);refine aV aW k.cN fun w=>Y3 ?_;refine bx (tl [0,3,10,11]) (fun(z:Nat×Nat×Z0)=>[(12,vi z.2.1)]) (fun z=>((tS H b 2 z.2.2.aC).set g (some (.cells (Z0.cg (some b) z.2.2))))) (fun z=>z.1) (fun z=>EA k z.1 z.2.1 z.2.2=some r) ((k.cN.l.length+1),0,j) f wA ?_;rintro ⟨p,y,q⟩ f B C
 try dsimp only at f
 cases p with
 | zero=>cases f
 | succ p =>
   rw [EA] at f;refine Y3 ?_;refine ar fun E F=>?_;refine cE f (fun m f=>?_) (fun m f=>?_)
   ·try dsimp only at m
    have G:=oD m;cases f
   refine ag.exit ?_;repeat (first|refine eS ?_|refine eR ?_|refine eP ?_)
   obtain rfl:=oJ f;refine bR.eX ((tS H b 2 q.aC).set g (some (.cells (Z0.cg (some b) q)))) (xs:=[]) rfl ⟨rfl,rfl⟩ ?_;exact(fun _ _ h=>h)
def EC  (b:Z0):Option (Sl Z9):=some b.aC
def ED (b:Nat) (f:Nat->Z0->Option (Sl Z9)) (g:Z0):Option (Sl Z9):=f (b+1) g
def xP (f:an) :Nat->Nat->Z0->Option (Sl Z9)
 | 0,_,_=>none
 | n10+1,b,g=>bif (decide (((b:Nat):Int)<((f.aA.l.length:Nat):Int))) then((f.aA.l[b]?).bind fun j=>bif (decide (j.aj=(1:Int))) then((EB g j).bind fun k=>ED b ((xP f n10)) k) else(none)) else(EC   g)
def EE (b:an):Option (Sl Z9):=xP b (b.aA.l.length+1) 0 (Z0.mk b Sl.nil)
theorem QS {g:an}{r:Sl Z9}(b:EE g=some r) (H:ah){f:Nat}(M:H f=some (.tok 2 0)):At 55 [.agg (an.c g)] H (RT (.a (.d (Sl.d 2 Z9.c (some f) r))) (H.set f (some (.tok 2 r.l.length)))):=by
 unfold EE at b;refine AC.oW 67 [.tmp 2] Tryz.call55 Tryz.func55 ?_;refine hz (H.set f (some (.tok 2 0))) (Y7 ?_);refine sE (dA.rN rfl) rfl (fun _ _ _ ⟨k,s,u,v,y⟩=>?_);subst u v y;obtain⟨N,s⟩:=ah.dP s;refine aI.lp k _ au (fun j w cs hh hx=>tok_cell 1 2 2 hh (t:=f) au hx rfl) ?_
 refine hq ((H.set f (some (.tok 2 0))).set k (some (.cells (Z0.cg (some f) (Z0.mk g Sl.nil))))) (Y2 ?_);refine aN (tl [3]) (fun(z:Z0)=>[]) (fun z=>((tS H f 2 z.aC).set k (some (.cells (Z0.cg (some f) z))))) (fun z=>EC z=some r) ?_ ?_
 ·intro O B;refine Y3 ?_;refine aV ay.c g.aA fun P=>Y3 ?_;refine bx (tl [3,13,14]) (fun(z:Nat×Nat×Z0)=>[(15,vi z.2.1)]) (fun z=>((tS H f 2 z.2.2.aC).set k (some (.cells (Z0.cg (some f) z.2.2))))) (fun z=>z.1) (fun z=>xP g z.1 z.2.1 z.2.2=some r) ((g.aA.l.length+1),0,(Z0.mk g Sl.nil)) b wA ?_;rintro ⟨n10,m,C⟩ b Q E;try dsimp only at b
  cases n10 with
  | zero=>cases b
  | succ n10 =>
    rw [xP] at b;refine Y3 ?_;refine ar fun R F=>?_;refine cE b (fun p b=>?_) (fun p b=>?_)
    ·try dsimp only at p
     have U:=oD p;refine sk F (aN (tl [3,13,14,15]) (fun(z:Z0)=>[]) (fun z=>((tS H f 2 z.aC).set k (some (.cells (Z0.cg (some f) z))))) (fun z=>ED m ((xP g n10)) z=some r) ?_ ?_)
     ·intro W G;refine Y2 ?_;obtain⟨X,I,b⟩:=bO b;refine S (ix ay.c m I) (Y4 ?_);refine bl 5 _ rfl (kl [3,13,14,15]) ?_;refine Y9 ?_;refine cE b (fun J b=>?_) (fun J b=>?_)
      ·refine Y3 ?_;obtain⟨q,K,b⟩:=bO b;refine sH (bF rfl rfl (QR K _ au au)) rfl ?_;refine hq ((tS H f 2 q.aC).set k (some (.cells (Z0.cg (some f) q)))) (Y1 ?_);exact G _ q wA b
      cases b
     rintro L b;try dsimp only at b
     unfold ED at b;refine Y4 ?_;exact E _ (n10,(m+1),L) wA b (nS _)
    refine ag.exit ?_;exact B _ C wA b
 rintro Y b;try dsimp only at b
 unfold EC at b;refine Y7 ?_;exact rs b
def EF  (b:(Sl Z9)):Option (Sl Z9):=some b
def EG (b:Nat) (f:Nat->(Sl Z9)->Option (Sl Z9)) (g:(Sl Z9)):Option (Sl Z9):=f (b+1) g
def EH (b:Nat) (f:ay) (g:Nat->(Sl Z9)->Option (Sl Z9)):Nat->Nat->(Sl Z9)->Option (Sl Z9)
 | 0,_,_=>none
 | m+1,j,k=>bif (decide (((j:Nat):Int)<((f.bG.l.length:Nat):Int))) then(none) else(EG b g k)
def EI (f:Nat) (b:ay) (g:Nat->(Sl Z9)->Option (Sl Z9)) (j:(Sl Z9)):Option (Sl Z9):=EH f b g (b.bG.l.length+1) 0 j
def EJ (b:Nat) (f:Nat->(Sl Z9)->Option (Sl Z9)) (g:(Sl Z9)):Option (Sl Z9):=f (b+1) g
def EK (b:Nat) (f:aT) (g:Nat->(Sl Z9)->Option (Sl Z9)):Nat->Nat->(Sl Z9)->Option (Sl Z9)
 | 0,_,_=>none
 | m+1,j,k=>bif (decide (((j:Nat):Int)<((f.aG.l.length:Nat):Int))) then(none) else(EJ b g k)
def uM (g:Nat) (b:ay) (j:Nat->(Sl Z9)->Option (Sl Z9)):Nat->Nat->(Sl Z9)->Option (Sl Z9)
 | 0,_,_=>none
 | p+1,f,k=>bif (decide (((f:Nat):Int)<((b.bA.l.length:Nat):Int))) then((b.bA.l[f]?).bind fun m=>EK f m ((uM g b j p)) (m.aG.l.length+1) 0 k) else(EI g b j k)
def mI (f:an) :Nat->Nat->(Sl Z9)->Option (Sl Z9)
 | 0,_,_=>none
 | k+1,b,g=>bif (decide (((b:Nat):Int)<((f.aA.l.length:Nat):Int))) then((f.aA.l[b]?).bind fun j=>uM b j ((mI f k)) (j.bA.l.length+1) 0 g) else(EF   g)
def EL (b:an):Option (Sl Z9):=mI b (b.aA.l.length+1) 0 (Sl.nil:Sl Z9)
theorem QU {k oT gT r}(b:EL k=some r) (H:ah) (ak:H gT=some oT) (al:gz Tryz.prog oT):At 56 [.agg (an.c k)] H (RT (.a (.d (Sl.d 2 Z9.c none r))) H):=by
 unfold EL at b;refine AC.oW 70 [.tmp 2] Tryz.call56 Tryz.func56 ?_;refine Y2 ?_;refine s0 (dM (k':=2) rfl) rfl ?_;refine Y2 ?_;refine aI.tok 2 fun f am=>?_;have ao:f≠gT:=fun v=>by subst v; simp_all
 refine sE (dA.HU (TK rfl) rfl) rfl (fun _ _ _ ⟨g,G,M,N,O⟩=>?_);subst M N O;obtain⟨ap,G⟩:=ah.dP G;have av:g≠gT:=fun v=>by subst v; simp_all
 refine aI.lp g _ au (fun j w cs hh hx=>tok_cell 0 2 2 hh (t:=f) au hx rfl) ?_;refine hq ((H.set f (some (.tok 2 0))).set g (some (.cells ([Sl.d 2 Z9.c (some f) (Sl.nil:Sl Z9)])))) (Y2 ?_);refine s0 (makeFunc rfl) rfl ?_;refine Y2 ?_;refine aN (tl [3]) (fun(z:(Sl Z9))=>[]) (fun z=>((tS H f 2 z).set g (some (.cells ([Sl.d 2 Z9.c (some f) z]))))) (fun z=>EF z=some r) ?_ ?_
 ·intro aw P;refine Y3 ?_;refine aV ay.c k.aA fun ax=>Y3 ?_;refine bx (tl [3,4,15,16]) (fun(z:Nat×Nat×(Sl Z9))=>[(17,vi z.2.1)]) (fun z=>((tS H f 2 z.2.2).set g (some (.cells ([Sl.d 2 Z9.c (some f) z.2.2]))))) (fun z=>z.1) (fun z=>mI k z.1 z.2.1 z.2.2=some r) ((k.aA.l.length+1),0,(Sl.nil:Sl Z9)) b wA ?_;rintro ⟨m,q,I⟩ b aB Q;try dsimp only at b
  cases m with
  | zero=>cases b
  | succ m =>
    rw [mI] at b;refine Y3 ?_;refine ar fun aC R=>?_;refine cE b (fun y b=>?_) (fun y b=>?_)
    ·try dsimp only at y
     have aD:=oD y;refine sk R (aN (tl [3,4,15,16,17]) (fun(z:(Sl Z9))=>[]) (fun z=>((tS H f 2 z).set g (some (.cells ([Sl.d 2 Z9.c (some f) z]))))) (fun z=>EG q ((mI k m)) z=some r) ?_ ?_)
     ·intro aE U;refine Y2 ?_;obtain⟨p,W,b⟩:=bO b;refine S (ix ay.c q W) (Y4 ?_);refine bl 6 _ rfl (kl [3,4,15,16,17]) ?_;refine aN (tl [3,4,6,15,16,17]) (fun(z:(Sl Z9))=>[]) (fun z=>((tS H f 2 z).set g (some (.cells ([Sl.d 2 Z9.c (some f) z]))))) (fun z=>EI q p ((mI k m)) z=some r) ?_ ?_
      ·intro aF X;refine Y3 ?_;refine aV aT.c p.bA fun aJ=>Y3 ?_;refine bx (tl [3,4,6,15,16,17,22,23]) (fun(z:Nat×Nat×(Sl Z9))=>[(24,vi z.2.1)]) (fun z=>((tS H f 2 z.2.2).set g (some (.cells ([Sl.d 2 Z9.c (some f) z.2.2]))))) (fun z=>z.1) (fun z=>uM q p ((mI k m)) z.1 z.2.1 z.2.2=some r) ((p.bA.l.length+1),0,I) b wA ?_;rintro ⟨s,u,J⟩ b aK Y
       try dsimp only at b
       cases s with
       | zero=>cases b
       | succ s =>
         rw [uM] at b;refine Y3 ?_;refine ar fun aL Z=>?_;refine cE b (fun B b=>?_) (fun B b=>?_)
         ·try dsimp only at B
          have aM:=oD B;refine sk Z (aN (tl [3,4,6,15,16,17,22,23,24]) (fun(z:(Sl Z9))=>[]) (fun z=>((tS H f 2 z).set g (some (.cells ([Sl.d 2 Z9.c (some f) z]))))) (fun z=>EJ u ((uM q p ((mI k m)) s)) z=some r) ?_ ?_)
          ·intro aO aa;refine Y2 ?_;obtain⟨C,ab,b⟩:=bO b;refine S (ix aT.c u ab) (Y4 ?_);refine bl 8 _ rfl (kl [3,4,6,15,16,17,22,23,24]) ?_;refine Y3 ?_;refine aV az.c C.aG fun aP=>Y3 ?_
           refine bx (tl [3,4,6,8,15,16,17,22,23,24,29,30]) (fun(z:Nat×Nat×(Sl Z9))=>[(31,vi z.2.1)]) (fun z=>((tS H f 2 z.2.2).set g (some (.cells ([Sl.d 2 Z9.c (some f) z.2.2]))))) (fun z=>z.1) (fun z=>EK u C ((uM q p ((mI k m)) s)) z.1 z.2.1 z.2.2=some r) ((C.aG.l.length+1),0,J) b wA ?_;rintro ⟨K,aQ,ad⟩ b aR aS;try dsimp only at b
           cases K with
           | zero=>cases b
           | succ K =>
             rw [EK] at b;refine Y3 ?_;refine ar fun aU aW=>?_;refine cE b (fun E b=>?_) (fun E b=>?_)
             ·try dsimp only at E
              have aX:=oD E;cases b
             refine ag.exit ?_;exact aa _ ad wA b
          rintro ae b;try dsimp only at b
          unfold EJ at b;refine Y4 ?_;exact Y _ (s,(u+1),ae) wA b (nS _)
         refine ag.exit ?_;exact X _ J wA b
      rintro af b;try dsimp only at b
      unfold EI at b;refine Y3 ?_;refine aV az.c p.bG fun aY=>Y3 ?_;refine bx (tl [3,4,6,15,16,17,52,53]) (fun(z:Nat×Nat×(Sl Z9))=>[(54,vi z.2.1)]) (fun z=>((tS H f 2 z.2.2).set g (some (.cells ([Sl.d 2 Z9.c (some f) z.2.2]))))) (fun z=>z.1) (fun z=>EH q p ((mI k m)) z.1 z.2.1 z.2.2=some r) ((p.bG.l.length+1),0,af) b wA ?_
      rintro ⟨L,aZ,ai⟩ b a0 a1;try dsimp only at b
      cases L with
      | zero=>cases b
      | succ L =>
        rw [EH] at b;refine Y3 ?_;refine ar fun a2 a3=>?_;refine cE b (fun F b=>?_) (fun F b=>?_)
        ·try dsimp only at F
         have a4:=oD F;cases b
        refine ag.exit ?_;exact U _ ai wA b
     rintro aj b;try dsimp only at b
     unfold EG at b;refine Y4 ?_;exact Q _ (m,(q+1),aj) wA b (nS _)
    refine ag.exit ?_;exact P _ I wA b
 rintro a5 b;try dsimp only at b
 unfold EF at b;refine Y4 ?_;refine ag.eG 2 rfl ?_;exact rs b
def EM (b:an):Option (Sl Z9):=(Ez b true).bind fun f=>bif (decide ((0:Int)<((f.l.length:Nat):Int))) then(none) else((EE b).bind fun g=>(EL b).bind fun j=>(bq 24 g j).bind fun k=>some k)
theorem QV {j oT gT r}(b:EM j=some r) (H:ah) (y:H gT=some oT) (z:gz Tryz.prog oT):At 22 [.agg (an.c j)] H (RT (.a (.d (Sl.d 2 Z9.c none r))) H):=by
 unfold EM at b;refine AC.oW 15 [.tmp 2] Tryz.call22 Tryz.func22 ?_;refine Y2 ?_;refine s0 (dM (k':=2) rfl) rfl ?_;refine Y1 ?_;refine ar fun B k=>Y2 ?_;obtain⟨l,m,b⟩:=bO b;refine Sc rfl rfl (QO m) (Y4 ?_);refine aV Z9.c l fun C=>Y2 ?_;refine cE b (fun p b=>?_) (fun p b=>?_)
 ·cases b
 refine sk k (ag.tok 2 fun g E=>?_);have F:g≠gT:=fun q=>by subst q; simp_all
 refine Y2 ?_;obtain⟨s,t,b⟩:=bO b;refine aH.sH (bF rfl rfl (QS t _ au)) rfl ?_;refine aH.Dh (tS H g 2 s) ?_;refine Y1 ?_;obtain⟨G,u,b⟩:=bO b;refine aH.s0 (eV rfl rfl (QU (gT:=gT) (oT:=oT) u _ au (by assumption))) rfl ?_;obtain⟨v,w,b⟩:=bO b;refine aH.sH (mw (f:=Z9.c) (TK rfl) rfl (TK rfl) (TK rfl) ⟨_,rfl⟩ rfl rfl (by decide) rfl rfl rfl rfl au rfl w) rfl ?_
 refine aH.Dh (tS H g 2 v) ?_;refine Y2 ?_;refine ag.eG 2 rfl ?_;refine ry ?_;obtain rfl:=oJ b;refine bR.cK H rfl ⟨rfl,rfl⟩ ?_;exact sy
def xQ (kk:(Bool->Option Unit)):Option Unit:=r_ (an.mk (⟨false,[(ay.mk 1 [81,117,101,114,121] Sl.nil Sl.nil (⟨false,[(aT.mk [97] Sl.nil (ax.mk [73,110,116] Sl.nil) (Sl.nil:Sl aP)),(aT.mk [98] Sl.nil (ax.mk [73,110,116] Sl.nil) (Sl.nil:Sl aP))]⟩:Sl aT) (Sl.nil:Sl bC) (Sl.nil:Sl az))]⟩:Sl ay)) (aR.mk (⟨false,[(bJ.mk 1 [] Sl.nil (⟨false,[(ai.mk 1 [] [97] [] Sl.nil Sl.nil true ([]))]⟩:Sl ai)),(bJ.mk 1 [] Sl.nil (⟨false,[(ai.mk 1 [] [98] [] Sl.nil Sl.nil true ([]))]⟩:Sl ai))]⟩:Sl bJ) (Sl.nil:Sl aY)) fun b=>(xR (aR.mk (⟨false,[(bJ.mk 1 [] Sl.nil (⟨false,[(ai.mk 1 [] [97] [] Sl.nil Sl.nil true ([]))]⟩:Sl ai)),(bJ.mk 1 [] Sl.nil (⟨false,[(ai.mk 1 [] [98] [] Sl.nil Sl.nil true ([]))]⟩:Sl ai))]⟩:Sl bJ) (Sl.nil:Sl aY)) ([97]:Bs)).bind fun f=>a_ (((decide (f.2=(8:Int)))&&(decide (((b.l.length:Nat):Int)=(2:Int))))) (b.l[0]?) Z9.zero fun g=>a_ ((((decide (f.2=(8:Int)))&&(decide (((b.l.length:Nat):Int)=(2:Int))))&&(decide (g.D7=(6:Int))))) (EM (an.mk (⟨false,[(ay.mk 1 [81,117,101,114,121] Sl.nil Sl.nil (⟨false,[(aT.mk [97] Sl.nil (ax.mk [73,110,116] Sl.nil) (Sl.nil:Sl aP)),(aT.mk [98] Sl.nil (ax.mk [73,110,116] Sl.nil) (Sl.nil:Sl aP))]⟩:Sl aT) (Sl.nil:Sl bC) (Sl.nil:Sl az))]⟩:Sl ay))) (Sl.nil:Sl Z9) fun j=>kk ((((decide (f.2=(8:Int)))&&(decide (((b.l.length:Nat):Int)=(2:Int))))&&(decide (g.D7=(6:Int))))&&(decide (((j.l.length:Nat):Int)=(0:Int))))
theorem Jw {kk oT gT r}(b:xQ kk=some r) (H:ah) (p:H gT=some oT) (q:gz Tryz.prog oT):At 7 [] H fun v h'=>(∃x,(∃f,x=.d (.bool f)/\kk f=some r)/\v=.a x)/\h'=H:=by
 unfold xQ at b;refine AC.oW 50 [.tmp 0] Tryz.call7 Tryz.func7 ?_;refine P3 ?_;refine bl 1 _ rfl dR.nil ?_;refine kH ?_;refine bl 2 _ rfl (kl [1]) ?_;refine Y3 ?_;refine s0 (eV rfl rfl (AC.sm (Jx (gT:=gT) (oT:=oT) b _ au (by assumption)))) rfl ?_;refine aI.kD 24 rfl ?_;rintro _ ⟨g,rfl,b⟩;refine Y4 ?_;obtain⟨s,j,b⟩:=bO b;refine Sc rfl rfl (Jy j) (AK ?_)
 refine bE 33 rfl (fun hC=>dW Z9.c g) ?_;refine Gk 34 ?_;refine Y3 ?_;obtain⟨t,k,b⟩:=gO b;refine bE 38 rfl (fun hC=>ix Z9.c 0 (k hC)) ?_;refine Gk 39 ?_;refine Gk 40 ?_;refine Gk 41 ?_;refine Y3 ?_;obtain⟨l,m,b⟩:=gO b;refine bE 45 rfl (fun hC=>eV rfl rfl (QV (gT:=gT) (oT:=oT) (m hC) _ au (by assumption))) ?_;refine bE 46 rfl (fun hC=>dW Z9.c l) ?_;refine Gk 47 ?_;refine Y3 ?_
 refine ry ?_;refine bR.cK H rfl ⟨⟨_,⟨_,rfl,b⟩,rfl⟩,rfl⟩ ?_;exact(fun _ _ h=>h)
def AY (b:Int):Bs:=bif (decide (b=(1:Int))) then(([81,117,101,114,121]:Bs)) else(bif (decide (b=(2:Int))) then(([77,117,116,97,116,105,111,110]:Bs)) else(bif (decide (b=(3:Int))) then(([83,117,98,115,99,114,105,112,116,105,111,110]:Bs)) else(([]:Bs))))
def AZ (b:Int):Option Bs:=some (AY b)
theorem QW (a0:Int):AZ a0=some (AY a0):=rfl
theorem QX {f r}(b:AZ f=some r) (H:ah) :At 10 [.d (.int .i64 f)] H (RT (.a (.d (.str r))) H):=by
 unfold AZ AY at b;refine AC.oW 10 [.tmp 2] Tryz.call10 Tryz.func10 ?_;refine Y3 ?_;refine ar fun m g=>Y8 ?_;refine cP b (fun j b=>?_) (fun j b=>?_)
 ·refine Y3 ?_;exact rt b
 refine Y4 ?_;refine cP b (fun k b=>?_) (fun k b=>?_)
 ·refine Y3 ?_;exact rt b
 refine Y4 ?_;refine cP b (fun l b=>?_) (fun l b=>?_)
 ·refine Y3 ?_;exact rt b
 refine sk g (Y3 ?_);exact rt b
def EN (kk:Bool->Option Unit)  :Option Unit:=xQ  fun b=>kk b
def uN (j:an) (b:aR) (kk:Bool->Option Unit) :Nat->Nat->Option Unit
 | 0,_=>none
 | k+1,f=>bif (decide (((f:Nat):Int)<((b.bw.l.length:Nat):Int))) then((b.bw.l[f]?).bind fun m=>(xR b m.aa).bind fun g=>(b.bw.l[f]?).bind fun p=>(AZ p.aj).bind fun q=>(xF j q).bind fun r=>bif (((!decide (g.1=((f:Nat):Int)))||(!decide (g.2=(0:Int))))||(!r.2)) then(kk false) else((uN j b kk k) (f+1))) else(EN kk  )
def A2 (f:an) (b:aR) (kk:(Bool->Option Unit)):Option Unit:=(A3 f).bind fun g=>a_ (!(decide ((0:Int)<((g.l.length:Nat):Int)))) (A4 f b) false fun j=>nN (!((decide ((0:Int)<((g.l.length:Nat):Int)))||(!j))) (r_ f b) (Sl.nil:Sl Z9) fun k=>bif (((decide ((0:Int)<((g.l.length:Nat):Int)))||(!j))||(decide ((0:Int)<((k.l.length:Nat):Int)))) then(xQ  fun m=>kk m) else(uN f b kk (b.bw.l.length+1) 0)
theorem QY {p f kk oT gT r}(b:A2 p f kk=some r) (H:ah) (P:H gT=some oT) (Q:gz Tryz.prog oT):At 3 [.agg (an.c p),.agg (aR.c f)] H fun v h'=>(∃x,(∃g,x=.d (.bool g)/\kk g=some r)/\v=.a x)/\h'=H:=by
 unfold A2 at b;refine AC.oW 70 [.tmp 4] Tryz.call3 Tryz.func3 ?_;refine Y5 ?_;refine ar fun R q=>Y2 ?_;obtain⟨s,t,b⟩:=bO b;refine Sc rfl rfl (QZ t) (aV Z9.c s fun S=>Y4 ?_);obtain⟨U,u,b⟩:=gO b;refine fV 15 16 rfl rfl rfl rfl rfl rfl (fun hC=>Q0 (u hC)) ?_;refine Gk 17 ?_;refine Y4 ?_
 refine fc 21 22 rfl rfl (fun hC=>eV rfl rfl (AC.sm (Jx (gT:=gT) (oT:=oT) (AD b hC) _ au (by assumption)))) ?_;refine aI.DX 23 (fun g=>Sl.d 2 Z9.c none g) (Sl.nil:Sl Z9) rfl ?_;intro w y B;replace b:=AE b y B;refine bE 23 rfl (fun hC=>dW Z9.c w) ?_;refine Gk 24 ?_;refine Y2 ?_;refine cE b (fun C b=>?_) (fun C b=>?_)
 ·refine Y1 ?_;refine s0 (eV rfl rfl (AC.sm (Jw (gT:=gT) (oT:=oT) b _ au (by assumption)))) rfl ?_;refine aI.kD 27 rfl ?_;rintro _ ⟨W,rfl,b⟩;refine Y2 ?_;refine ry ?_;refine bR.cK H rfl ⟨⟨_,⟨_,rfl,b⟩,rfl⟩,rfl⟩ ?_;exact(fun _ _ h=>h)
 refine sk q (aN kN (fun(z:Unit)=>[]) (fun z=>H) (fun z=>EN kk =some r) ?_ ?_)
 ·intro X E;refine Y4 ?_;refine bx (tl [2,3]) (fun(z:Nat×Nat)=>[(5,vi z.2)]) (fun z=>H) (fun z=>z.1) (fun z=>uN p f kk z.1 z.2=some r) ((f.bw.l.length+1),0) b wA ?_;rintro ⟨j,k⟩ b Y F;try dsimp only at b
  cases j with
  | zero=>cases b
  | succ j =>
    rw [uN] at b;refine ar fun Z G=>Y4 ?_;refine aV bJ.c f.bw fun aa=>Y2 ?_;refine cE b (fun m b=>?_) (fun m b=>?_)
    ·try dsimp only at m
     have ab:=oD m;refine sk G (ar fun ad I=>Y6 ?_);obtain⟨ae,J,b⟩:=bO b;refine Sd (ix bJ.c k J) (Y2 ?_);obtain⟨af,K,b⟩:=bO b;refine ck rfl rfl (Jy K) (AK ?_);obtain⟨ai,L,b⟩:=bO b;refine Sd (ix bJ.c k L) (Y2 ?_);obtain⟨aj,M,b⟩:=bO b;refine ck rfl rfl (QX M) ?_;obtain⟨ak,N,b⟩:=bO b;refine ck rfl rfl (kK N) (Y7 ?_)
     refine bl 8 _ rfl (kl [2,3,5,6,7,9]) ?_;refine Y6 ?_;refine Gk 62 ?_;refine Y3 ?_;refine Gk 66 ?_;refine Y2 ?_;refine cE b (fun O b=>?_) (fun O b=>?_)
     ·refine Y3 ?_;refine ry ?_;refine bR.cK H rfl ⟨⟨_,⟨_,rfl,b⟩,rfl⟩,rfl⟩ ?_;exact(fun _ _ h=>h)
     refine sk I (Y5 ?_);exact F _ (j,(k+1)) wA b (nS _)
    refine ag.exit ?_;exact E _ () wA b
 rintro _ b;try dsimp only at b
 unfold EN at b;refine Y1 ?_;refine s0 (eV rfl rfl (AC.sm (Jw (gT:=gT) (oT:=oT) b _ au (by assumption)))) rfl ?_;refine aI.kD 69 rfl ?_;rintro _ ⟨al,rfl,b⟩;refine Y2 ?_;refine ry ?_;refine bR.cK H rfl ⟨⟨_,⟨_,rfl,b⟩,rfl⟩,rfl⟩ ?_;exact(fun _ _ h=>h)
end Go.Proofs
namespace Go.Proofs
open Go Go.Ab
theorem Q1 (a:ax) (g:a.av.l.length<=1048576) (l:List Int) (i:Nat) (h:i+l.length=a.av.l.length):Ok (p_ a l i):=by
 induction l generalizing i with
 | nil=>exact b7 _
 | cons x r f =>
  simp only [List.length_cons] at h;have hr:=f (i+1) (by omega);rw [p_];simp only [on];refine dB (fun _=>b7 _) fun _=>?_;by_cases hi:0<i
  ·have h1:decide ((0:Int)<((i:Nat):Int))=true:=by simpa using hi
   obtain⟨v,hv⟩:=PL (l:=a.av.l) (n:=(i:Int)-1) (by omega);simp only [h1,cond_true,Bool.true_and,DZ (a:=(i:Int)) (b:=1) (by omega)];cases decide (x=1)<;>simp only [a_,hv,if_true,oB,Bool.false_eq_true,if_false,Bool.false_and,cond_false]
   ·exact hr
   ·(repeat' (first|exact b7 _|assumption|intro _|(with_reducible first|apply dO|apply dQ|apply dB|apply dJ)|split))
  ·have h1:decide ((0:Int)<((i:Nat):Int))=false:=by simpa using hi
   simp only [h1,Bool.false_and,a_,Bool.false_eq_true,if_false,cond_false];exact hr
theorem EO (a:ax) (b:a.av.l.length<=1048576):Ok (sg a):=by
 unfold sg
 (repeat' (first|exact b7 _|assumption|intro _|(with_reducible first|apply dO|apply dQ|apply dB|apply dJ)|split))
 exact Q1 a b _ _ (by simp)
theorem Q2 (k:af->Option Int) (l:List af) (s:Int) (hk:∀x∈l,∃r,k x=some r/\1<=r/\r<=x.sz) (m:0<=s) (b:s+((l.map af.sz).sum:Nat)<=1152921504606846976):∃r,qa k l s=some r/\s<=r/\r<=s+((l.map af.sz).sum:Nat):=by
 induction l generalizing s with
 | nil=>exact⟨s,rfl,by simp,by simp⟩
 | cons x r f =>
  obtain⟨v,h1,h2,p⟩:=hk x List.mem_cons_self;simp only [List.map_cons,List.sum_cons] at b ⊢;rw [qa];simp only [on,h1,oB];rw [fq (by omega)];simp only [oB];obtain⟨w,g,q,t⟩:=f (s+v) (fun y j=>hk y (List.mem_cons_of_mem _ j)) (by omega) (by omega);exact⟨w,g,by omega,by omega⟩
theorem af.nZ {v x:af}(h:x∈v.aB.l):x.sz<v.sz:=by
 have h1:=v.bH; have h2:=Sl.dh (f:=af.sz) h; omega
theorem af.Jz (v:af):2+(v.aB.l.map af.sz).sum<=v.sz:=by
 have h1:=v.bH; have h2:Sl.sz af.sz v.aB=1+(v.aB.l.map af.sz).sum:=rfl; omega
theorem Q3 (n:Nat):∀v:af,v.sz<n->v.sz<=1073741824->∃r,lJ n v=some r/\1<=r/\r<=v.sz:=by
 induction n with
 | zero=>intro v h; omega
 | succ n b =>
  intro v h g;have h0:=v.Jz;obtain⟨w,f,j,k⟩:=Q2 (lJ n) v.aB.l 1 (fun x hx=>by have:=af.nZ hx; exact b x (by omega) (by omega)) (by omega) (by omega);rw [lJ,f];exact⟨w,rfl,by omega,by omega⟩
theorem JA (v:af) (h:v.sz<=1048576):∃r,EP v=some r/\1<=r/\r<=v.sz:=Q3 F0 v (by rw [ep]; omega) (by omega)
theorem Q4 (k:af->Option Int) (l:List af) (s b:Int) (hk:∀x∈l,∃r,k x=some r/\1<=r/\r<=b) (j:0<=s/\s<=b):∃r,qb k l s=some r/\0<=r/\r<=b:=by
 induction l generalizing s with
 | nil=>exact⟨s,rfl,by omega,by omega⟩
 | cons x r f =>
  obtain⟨v,h1,h2,m⟩:=hk x List.mem_cons_self;rw [qb];simp only [on,h1,oB];exact f _ (fun y g=>hk y (List.mem_cons_of_mem _ g)) (by split<;>omega)
theorem Q5 (n:Nat):∀v:af,v.sz<n->v.sz<=1073741824->∃r,lK n v=some r/\1<=r/\r<=v.sz:=by
 induction n with
 | zero=>intro v h; omega
 | succ n b =>
  intro v h k;have h0:=v.Jz;obtain⟨w,f,m,p⟩:=Q4 (lK n) v.aB.l 0 (v.sz-1:Nat) (fun x hx=>by have:=af.nZ hx; obtain⟨r,g,j,q⟩:=b x (by omega) (by omega); exact⟨r,g,j,by omega⟩) (by omega);rw [lK,f];simp only [on,oB];rw [fq (by omega)];exact⟨w+1,rfl,by omega,by omega⟩
theorem Q6 (v:af) (h:v.sz<=1048576):Ok (JB v):=by
 obtain⟨r,hr,_⟩:=Q5 F0 v (by rw [ep]; omega) (by omega); exact⟨r,hr⟩
theorem Q7 (a:Sl Bs) (x:Bs) (m i:Nat) (h:i+m<=a.l.length):Ok (qc a x m i):=by
 induction m generalizing i with
 | zero=>exact b7 _
 | succ m b =>
  rw [qc]
  (repeat' (first|exact b7 _|assumption|intro _|(with_reducible first|apply dO|apply dQ|apply dB|apply dJ)|split))
  ·exact PM (by omega)
  ·exact b _ (by omega)
theorem Q8 (a:Sl Bs) (l:List Bs) (i:Nat) (h:i+l.length=a.l.length):Ok (oa a l i):=by
 induction l generalizing i with
 | nil=>exact b7 _
 | cons x r b =>
  simp only [List.length_cons] at h;rw [oa]
  (repeat' (first|exact b7 _|assumption|intro _|(with_reducible first|apply dO|apply dQ|apply dB|apply dJ)|split))
  ·exact Q7 a x _ _ (by omega)
  ·exact b _ (by omega)
theorem Q9 (a:Sl Bs):Ok (xS a):=by
 unfold xS
 (repeat' (first|exact b7 _|assumption|intro _|(with_reducible first|apply dO|apply dQ|apply dB|apply dJ)|split))
 exact Q8 a _ _ (by simp)
theorem Q_ (v:af) (b:Bool):Ok (xT v b):=by
 unfold xT
 (repeat' (first|exact b7 _|assumption|intro _|(with_reducible first|apply dO|apply dQ|apply dB|apply dJ)|split))
 exact Q9 _
theorem Ra (b:Bool) (k:af->Bool->Option Bool) (l:List af) (hk:∀x∈l,Ok (k x b)):Ok (oc b k l):=by
 induction l with
 | nil=>exact b7 _
 | cons x r f =>
  rw [oc]
  (repeat' (first|exact b7 _|assumption|intro _|(with_reducible first|apply dO|apply dQ|apply dB|apply dJ)|split))
  ·rename_i h; rw [h]; exact hk x List.mem_cons_self
  ·exact f fun y g=>hk y (List.mem_cons_of_mem _ g)
theorem Rb (n:Nat):∀(v:af) (b:Bool),v.sz<n->Ok (lM n v b):=by
 induction n with
 | zero=>intro v b h; omega
 | succ n f =>
  intro v b h;rw [lM]
  (repeat' (first|exact b7 _|assumption|intro _|(with_reducible first|apply dO|apply dQ|apply dB|apply dJ)|split))
  ·exact Q_ _ _
  ·exact Ra b _ _ fun x hx=>f x b (by have:=af.nZ hx; omega)
theorem A5 (v:af) (h:v.sz<=1048576):Ok (qd v):=by
 unfold qd;obtain⟨r,hr,_⟩:=JA v h
 (repeat' (first|exact b7 _|assumption|intro _|(with_reducible first|apply dO|apply dQ|apply dB|apply dJ)|split))
 ·exact⟨r,hr⟩
 ·exact Q6 v h
 ·exact Rb F0 v true (by rw [ep]; omega)
theorem Rc (k:af->Option Bool) (l:List af) (hk:∀x∈l,Ok (k x)):Ok (qe k l):=by
 induction l with
 | nil=>exact b7 _
 | cons x r b =>
  rw [qe]
  (repeat' (first|exact b7 _|assumption|intro _|(with_reducible first|apply dO|apply dQ|apply dB|apply dJ)|split))
  ·rename_i h; rw [h]; exact hk x List.mem_cons_self
  ·exact b fun y f=>hk y (List.mem_cons_of_mem _ f)
theorem Re (n:Nat):∀(v:af),v.sz<n->Ok (mJ n v):=by
 induction n with
 | zero=>intro v h; omega
 | succ n b =>
  intro v h;rw [mJ]
  (repeat' (first|exact b7 _|assumption|intro _|(with_reducible first|apply dO|apply dQ|apply dB|apply dJ)|split))
  exact Rc _ _ fun x hx=>b x (by have:=af.nZ hx; omega)
theorem JC (v:af) (h:v.sz<=1048576):Ok (EQ v):=Re F0 v (by rw [ep]; omega)
theorem aO.qf (a:aO):a.dr.sz<=a.sz:=by have:=a.bH; omega
theorem aP.A6 {x:aP}{a:aO}(h:a∈x.aG.l):a.sz<=x.sz:=by have:=x.bH; have:=Sl.dh (f:=aO.sz) h; omega
theorem Rf (b:aP) (l:List aO) (h:∀a∈l,a.sz<=1048576):Ok (sj b l):=by
 induction l with
 | nil=>exact b7 _
 | cons x r f =>
  have h1:=h x List.mem_cons_self; have h2:=x.qf;rw [sj]
  (repeat' (first|exact b7 _|assumption|intro _|(with_reducible first|apply dO|apply dQ|apply dB|apply dJ)|split))
  all_goals first|exact f fun y g=>h y (List.mem_cons_of_mem _ g)|(subst_vars; first|exact A5 _ (by omega)|exact JC _ (by omega))
theorem Rg (l:List aP) (h:∀a∈l,a.sz<=1048576):Ok (sr l):=by
 induction l with
 | nil=>exact b7 _
 | cons x r b =>
  have h1:=h x List.mem_cons_self;rw [sr]
  (repeat' (first|exact b7 _|assumption|intro _|(with_reducible first|apply dO|apply dQ|apply dB|apply dJ)|split))
  ·exact Rf x _ fun a f=>by have:=aP.A6 f; omega
  ·exact b fun y g=>h y (List.mem_cons_of_mem _ g)
theorem A7 (s:Sl aP) (h:Sl.sz aP.sz s<=1048576):Ok (qg s):=by
 unfold qg
 (repeat' (first|exact b7 _|assumption|intro _|(with_reducible first|apply dO|apply dQ|apply dB|apply dJ)|split))
 exact Rg _ fun a b=>by have:=Sl.dh (f:=aP.sz) b; omega
theorem ax.uO (r:ax):r.av.l.length<=r.sz:=by have:=r.bH; have:=Sl.gQ (f:=fun _:Int=>1) r.av (fun _=>Nat.le_refl _); omega
theorem Rh (l:List az) (h:∀a∈l,a.sz<=1048576):Ok (qh l):=by
 induction l with
 | nil=>exact b7 _
 | cons x r b =>
  have h1:=h x List.mem_cons_self; have h2:=x.bH; have g:=x.aM.uO;rw [qh]
  (repeat' (first|exact b7 _|assumption|intro _|(with_reducible first|apply dO|apply dQ|apply dB|apply dJ)|split))
  all_goals first|exact b fun y f=>h y (List.mem_cons_of_mem _ f)|(subst_vars; first|exact EO _ (by omega)|exact A7 _ (by omega)|exact A5 _ (by omega)|exact JC _ (by omega))
theorem JD (s:Sl az) (h:Sl.sz az.sz s<=1048576):Ok (su s):=by
 unfold su
 (repeat' (first|exact b7 _|assumption|intro _|(with_reducible first|apply dO|apply dQ|apply dB|apply dJ)|split))
 exact Rh _ fun a b=>by have:=Sl.dh (f:=az.sz) b; omega
theorem Ri (l:List aT) (h:∀a∈l,a.sz<=1048576):Ok (qi l):=by
 induction l with
 | nil=>exact b7 _
 | cons x r b =>
  have h1:=h x List.mem_cons_self; have h2:=x.bH; have s:=x.aM.uO;have hz:aT.zero.aM.av.l.length<=1048576:=by decide
  rw [qi];simp only [on];cases fB x.aa<;>simp only [Bool.not_true,Bool.not_false,cond_true,cond_false,Bool.or_false,Bool.or_true,Bool.true_or,Bool.false_or]
  ·simp [a_]; exact b7 _
  ·obtain⟨f,g⟩:=JD x.aG (by omega);obtain⟨j,k⟩:=EO x.aM (by omega);obtain⟨m,p⟩:=A7 x.bS (by omega);have hr:=b fun y q=>h y (List.mem_cons_of_mem _ q);cases f<;>cases j<;>cases m<;>simp [a_,g,k,p]<;>first|exact b7 _|exact hr
theorem Rj (s:Sl aT) (h:Sl.sz aT.sz s<=1048576):Ok (qj s):=by
 unfold qj
 (repeat' (first|exact b7 _|assumption|intro _|(with_reducible first|apply dO|apply dQ|apply dB|apply dJ)|split))
 exact Ri _ fun a b=>by have:=Sl.dh (f:=aT.sz) b; omega
theorem Rk (b:Bool) (l:List bC) (h:∀a∈l,a.sz<=1048576):Ok (qk b l):=by
 induction l with
 | nil=>exact b7 _
 | cons x r f =>
  have h1:=h x List.mem_cons_self; have h2:=x.bH;rw [qk];simp only [on];cases fB x.aa<;>simp only [Bool.not_true,Bool.not_false,cond_true,cond_false,Bool.or_false,Bool.or_true,Bool.true_or,Bool.false_or]
  ·simp [a_]; exact b7 _
  ·obtain⟨k,g⟩:=A7 x.bS (by omega);have hr:=f fun y j=>h y (List.mem_cons_of_mem _ j);simp only [a_,g,if_true,oB]
   (repeat' (first|exact b7 _|assumption|intro _|(with_reducible first|apply dO|apply dQ|apply dB|apply dJ)|split))
theorem Rl (s:Sl bC) (b:Bool) (h:Sl.sz bC.sz s<=1048576):Ok (ql s b):=by
 unfold ql
 (repeat' (first|exact b7 _|assumption|intro _|(with_reducible first|apply dO|apply dQ|apply dB|apply dJ)|split))
 exact Rk _ _ fun a g=>by have:=Sl.dh (f:=bC.sz) g; omega
theorem Rm (x:ay) (h:x.sz<=1048576):Ok (xU x):=by
 have h2:=x.bH;unfold xU
 (repeat' (first|exact b7 _|assumption|intro _|(with_reducible first|apply dO|apply dQ|apply dB|apply dJ)|split))
 all_goals first|exact A7 _ (by omega)|exact Rj _ (by omega)|exact Rl _ _ (by omega)|exact JD _ (by omega)
theorem Rn (l:List ay) (h:∀a∈l,a.sz<=1048576):Ok (qm l):=by
 induction l with
 | nil=>exact b7 _
 | cons x r b =>
  rw [qm]
  (repeat' (first|exact b7 _|assumption|intro _|(with_reducible first|apply dO|apply dQ|apply dB|apply dJ)|split))
  ·subst_vars; exact Rm _ (h _ List.mem_cons_self)
  ·exact b fun y f=>h y (List.mem_cons_of_mem _ f)
theorem an.ER {d:an}{x:ay}(h:x∈d.aA.l):x.sz<=d.sz:=by have:=d.bH; have:=Sl.dh (f:=ay.sz) h; omega
theorem Ro (d:an) (h:d.sz<=1048576):Ok (xV d):=by
 unfold xV
 (repeat' (first|exact b7 _|assumption|intro _|(with_reducible first|apply dO|apply dQ|apply dB|apply dJ)|split))
 exact Rn _ fun a b=>by have:=an.ER b; omega
theorem Rp (k:af->Option Bool) (l:List af) (hk:∀x∈l,Ok (k x)):Ok (qn k l):=by
 induction l with
 | nil=>exact b7 _
 | cons x r b =>
  rw [qn]
  (repeat' (first|exact b7 _|assumption|intro _|(with_reducible first|apply dO|apply dQ|apply dB|apply dJ)|split))
  ·rename_i h; rw [h]; exact hk x List.mem_cons_self
  ·exact b fun y f=>hk y (List.mem_cons_of_mem _ f)
theorem Rq (n:Nat):∀(v:af),v.sz<n->Ok (mK n v):=by
 induction n with
 | zero=>intro v h; omega
 | succ n b =>
  intro v h;rw [mK]
  (repeat' (first|exact b7 _|assumption|intro _|(with_reducible first|apply dO|apply dQ|apply dB|apply dJ)|split))
  exact Rp _ _ fun x hx=>b x (by have:=af.nZ hx; omega)
theorem Rr (v:af) (h:v.sz<=1048576):Ok (JE v):=Rq F0 v (by rw [ep]; omega)
theorem Rs (l:List bN) (h:∀a∈l,a.sz<=1048576):Ok (qo l):=by
 induction l with
 | nil=>exact b7 _
 | cons x r b =>
  have h1:=h x List.mem_cons_self; have h2:=x.bH; have g:=x.aM.uO;have hr:=b fun y f=>h y (List.mem_cons_of_mem _ f);rw [qo]
  (repeat' (first|exact b7 _|assumption|intro _|(with_reducible first|apply dO|apply dQ|apply dB|apply dJ)|split))
  all_goals (subst_vars; first|exact EO _ (by omega)|exact A5 _ (by omega)|exact Rr _ (by omega))
theorem Rt (s:Sl bN) (h:Sl.sz bN.sz s<=1048576):Ok (xW s):=by
 unfold xW
 (repeat' (first|exact b7 _|assumption|intro _|(with_reducible first|apply dO|apply dQ|apply dB|apply dJ)|split))
 exact Rs _ fun a b=>by have:=Sl.dh (f:=bN.sz) b; omega
theorem Ru (l:List aO) (h:∀a∈l,a.sz<=1048576):Ok (qp l):=by
 induction l with
 | nil=>exact b7 _
 | cons x r f =>
  have h1:=h x List.mem_cons_self; have h2:=x.qf;have hr:=f fun y g=>h y (List.mem_cons_of_mem _ g);obtain⟨b,e⟩:=A5 x.dr (by omega);rw [qp];simp only [on];cases fB x.aa<;>simp only [a_,e,Bool.not_true,Bool.not_false,cond_true,cond_false,Bool.or_false,Bool.or_true,Bool.true_or,Bool.false_or,if_true,Bool.false_eq_true,if_false,oB]
  ·exact b7 _
  ·(repeat' (first|exact b7 _|assumption|intro _|(with_reducible first|apply dO|apply dQ|apply dB|apply dJ)|split))
theorem JF (s:Sl aO) (h:Sl.sz aO.sz s<=1048576):Ok (uP s):=by
 unfold uP
 (repeat' (first|exact b7 _|assumption|intro _|(with_reducible first|apply dO|apply dQ|apply dB|apply dJ)|split))
 exact Ru _ fun a b=>by have:=Sl.dh (f:=aO.sz) b; omega
theorem Rv (l:List aP) (h:∀a∈l,a.sz<=1048576):Ok (qq l):=by
 induction l with
 | nil=>exact b7 _
 | cons x r f =>
  have h1:=h x List.mem_cons_self; have h2:=x.bH;have hr:=f fun y g=>h y (List.mem_cons_of_mem _ g);obtain⟨b,e⟩:=JF x.aG (by omega);rw [qq];simp only [on];cases fB x.aa<;>simp only [a_,e,Bool.not_true,Bool.not_false,cond_true,cond_false,Bool.or_false,Bool.or_true,Bool.true_or,Bool.false_or,if_true,Bool.false_eq_true,if_false,oB]
  ·exact b7 _
  ·(repeat' (first|exact b7 _|assumption|intro _|(with_reducible first|apply dO|apply dQ|apply dB|apply dJ)|split))
theorem Rw (s:Sl aP) (h:Sl.sz aP.sz s<=1048576):Ok (xX s):=by
 unfold xX
 (repeat' (first|exact b7 _|assumption|intro _|(with_reducible first|apply dO|apply dQ|apply dB|apply dJ)|split))
 exact Rv _ fun a b=>by have:=Sl.dh (f:=aP.sz) b; omega
theorem Rx (i:Int) (k:ai->Int->Option Bool) (l:List ai) (hk:∀x∈l,Ok (k x i)):Ok (qt i k l):=by
 induction l with
 | nil=>exact b7 _
 | cons x r b =>
  have hr:=b fun y f=>hk y (List.mem_cons_of_mem _ f);rw [qt]
  (repeat' (first|exact b7 _|assumption|intro _|(with_reducible first|apply dO|apply dQ|apply dB|apply dJ)|split))
  rename_i h; rw [h]; exact hk x List.mem_cons_self
theorem ai.Ry {s x:ai}(h:x∈s.aK.l):x.sz<Sl.sz ai.sz s.aK/\Sl.sz ai.sz s.aK<s.sz:=by
 have h1:=s.bH; have h2:=Sl.dh (f:=ai.sz) h; have:=Bs.gf s.cq; omega
theorem ai.sub_lt (s:ai):Sl.sz ai.sz s.aK<s.sz:=by
 have h1:=s.bH; have:=Bs.gf s.cq; omega
theorem Rz (n:Nat):(∀(s:Sl ai) (i:Int),Sl.sz ai.sz s<=1048576->2*Sl.sz ai.sz s<n->0<=i->i<=25->Ok (od n s i))/\(∀(s:ai) (i:Int),s.sz<=1048576->2*s.sz<n->0<=i->i<=24->Ok (qu n s i)):=by
 induction n with
 | zero=>exact⟨fun s i _ h=>by omega,fun s i _ h=>by omega⟩
 | succ n j =>
  refine⟨fun s i k h h0 h1=>?_,fun s i k h h0 h1=>?_⟩
  ·rw [od];refine dB (fun _=>b7 _) fun hc=>?_;simp only [Bool.or_eq_false_iff,decide_eq_false_iff_not] at hc
   (repeat' (first|exact b7 _|assumption|intro _|(with_reducible first|apply dO|apply dQ|apply dB|apply dJ)|split))
   exact Rx _ _ _ fun x hx=>j.2 x i (by have:=Sl.dh (f:=ai.sz) hx; omega) (by have:=Sl.dh (f:=ai.sz) hx; omega) h0 (by omega)
  ·have h2:=s.bH;have p:=s.sub_lt;obtain⟨q,l⟩:=Rw s.bS (by omega);obtain⟨r,m⟩:=JF s.aG (by omega);obtain⟨t,g⟩:=j.1 s.aK (i+1) (by omega) (by omega) (by omega) (by omega);rw [qu]
   (repeat' (first|exact b7 _|assumption|intro _|(with_reducible first|apply dO|apply dQ|apply dB|apply dJ)|split))
   all_goals first
    | exact⟨_,l⟩|exact⟨_,m⟩|exact⟨_,g⟩
    | (rw [fq (by omega)]; exact b7 _)
    | (rename_i hg _ hv _; have b:=hv hg; rw [fq (by omega)] at b; obtain rfl:=oJ b; exact⟨_,g⟩)
    | (rename_i hv; rw [fq (by omega)] at hv; obtain rfl:=oJ hv; exact⟨_,g⟩)
    | (rename_i hv _ hg; have b:=hv hg; rw [fq (by omega)] at b; obtain rfl:=oJ b; exact⟨_,g⟩)
    | (rename_i hv _ _ hg; have b:=hv hg; rw [fq (by omega)] at b; obtain rfl:=oJ b; exact⟨_,g⟩)
theorem JG (s:Sl ai) (h:Sl.sz ai.sz s<=1048576):Ok (ES s 1):=(Rz F0).1 s 1 h (by rw [ep]; omega) (by omega) (by omega)
theorem RA (l:List bJ) (h:∀a∈l,a.sz<=1048576):Ok (qv l):=by
 induction l with
 | nil=>exact b7 _
 | cons x r b =>
  have h1:=h x List.mem_cons_self; have h2:=x.bH;have hr:=b fun y f=>h y (List.mem_cons_of_mem _ f);rw [qv]
  (repeat' (first|exact b7 _|assumption|intro _|(with_reducible first|apply dO|apply dQ|apply dB|apply dJ)|split))
  all_goals (subst_vars; first|exact Rt _ (by omega)|exact JG _ (by omega))
theorem RB (l:List aY) (h:∀a∈l,a.sz<=1048576):Ok (oe l):=by
 induction l with
 | nil=>exact b7 _
 | cons x r b =>
  have h1:=h x List.mem_cons_self; have h2:=x.bH;have hr:=b fun y f=>h y (List.mem_cons_of_mem _ f);rw [oe]
  (repeat' (first|exact b7 _|assumption|intro _|(with_reducible first|apply dO|apply dQ|apply dB|apply dJ)|split))
  all_goals (subst_vars; first|exact JG _ (by omega))
theorem aR.xY {d:aR}{x:bJ}(h:x∈d.bw.l):x.sz<=d.sz:=by have:=d.bH; have:=Sl.dh (f:=bJ.sz) h; omega
theorem aR.xZ {d:aR}{x:aY}(h:x∈d.aL.l):x.sz<=d.sz:=by have:=d.bH; have:=Sl.dh (f:=aY.sz) h; omega
theorem aR.lens (d:aR):d.bw.l.length<=d.sz/\d.aL.l.length<=d.sz:=by
 have h1:=d.bH; have h2:=Sl.gR (f:=bJ.sz) d.bw bJ.pos; have b:=Sl.gR (f:=aY.sz) d.aL aY.pos; omega
theorem RC (q:aR) (h:q.sz<=1048576):Ok (uQ q):=by
 have hl:=q.lens;unfold uQ;rw [fq (by omega)]
 (repeat' (first|exact b7 _|assumption|intro _|(with_reducible first|apply dO|apply dQ|apply dB|apply dJ)|split))
 ·exact RA _ fun a b=>by have:=aR.xY b; omega
 ·exact RB _ fun a b=>by have:=aR.xZ b; omega
theorem RD (m:Int) (b:ai) (l:List aO) (s:Int) (B:0<=s) (j:s+((l.map aO.sz).sum:Nat)<=1152921504606846976) (g:∀a∈l,a.sz<=1048576):∃r,sv m b l s=some r/\s<=r/\r+(l.length:Nat)<=s+((l.map aO.sz).sum:Nat):=by
 induction l generalizing s with
 | nil=>exact⟨s,rfl,by simp,by simp⟩
 | cons x r k =>
  have h1:=g x List.mem_cons_self; have h2:=x.bH; have C:=Bs.gf x.aa;obtain⟨v,p,E,F⟩:=JA x.dr (by omega);have hr:r.length<=(r.map aO.sz).sum:=by
   have:=Sl.gQ (f:=aO.sz) ⟨false,r⟩ aO.pos;have q:=Sl.gR (f:=aO.sz) ⟨false,r⟩ aO.pos;have t:Sl.sz aO.sz ⟨false,r⟩=1+(r.map aO.sz).sum:=rfl;simp only at q; omega
  simp only [List.map_cons,List.sum_cons,List.length_cons] at j ⊢;rw [sv];cases decide (s<=m) with
  | false=>exact⟨s,rfl,by omega,by omega⟩
  | true =>
   simp only [on,cond_true,p,oB];rw [fq (by omega)];simp only [oB];obtain⟨w,u,b,t⟩:=k (s+v) (by omega) (by omega) (fun y z=>g y (List.mem_cons_of_mem _ z));exact⟨w,u,by omega,by omega⟩
theorem RE (m:Int) (k:Sl ai->Int->Option Int) (l:List ai) (s:Int) (hm : -2305843009213693952<=m/\m<=1152921504606846976) (v:0<=s) (b:s+((l.map ai.sz).sum:Nat)<=1048576) (hk:∀x∈l,∀m',m-1048576<=m'->m'<=m->∃r,k x.aK m'=some r/\0<=r/\r<=(Sl.sz ai.sz x.aK:Nat)):∃r,sw m k l s=some r/\s<=r/\r<=s+((l.map ai.sz).sum:Nat):=by
 induction l generalizing s with
 | nil=>exact⟨s,rfl,by simp,by simp⟩
 | cons x r g =>
  have h2:=x.bH;have B:=Sl.gR (f:=aO.sz) x.aG aO.pos; have C:=Sl.gR (f:=aP.sz) x.bS aP.pos;have E:Sl.sz aO.sz x.aG=1+(x.aG.l.map aO.sz).sum:=rfl;have h0:=Bs.gf x.aa; have F:=Bs.gf x.cq; have G:=Bs.gf x.b9;have H:x.aG.l.length<=2*(x.aG.l.map aO.sz).sum:=by omega
  simp only [List.map_cons,List.sum_cons] at b ⊢;rw [sw];cases decide (s<=m) with
  | false=>exact⟨s,rfl,by omega,by omega⟩
  | true =>
   simp only [on,cond_true];iterate 3 (rw [fq (by omega)]; simp only [oB])
   obtain⟨w,j,I,J⟩:=RD m x x.aG.l (s+1+(x.aG.l.length:Nat)+(x.bS.l.length:Nat)) (by omega) (by omega) (fun a p=>by have:=Sl.dh (f:=aO.sz) p; omega);simp only [j,oB];rw [DZ (by omega)];simp only [oB];obtain⟨y,q,K,L⟩:=hk x List.mem_cons_self (m-w) (by omega) (by omega);simp only [q,oB];rw [fq (by omega)];simp only [oB]
   obtain⟨z,t,M,N⟩:=g (w+y) (by omega) (by omega) (fun y u=>hk y (List.mem_cons_of_mem _ u));exact⟨z,t,by omega,by omega⟩
theorem RG (n:Nat):∀(l:Sl ai) (m:Int),Sl.sz ai.sz l<n->Sl.sz ai.sz l<=1048576 -> -2199023255552+(Sl.sz ai.sz l:Nat)*1048576<=m->m<=1152921504606846976->∃r,qw n l m=some r/\0<=r/\r<=(Sl.sz ai.sz l:Nat):=by
 induction n with
 | zero=>intro l m h; omega
 | succ n b =>
  intro l m h1 h2 k g;have p:Sl.sz ai.sz l=1+(l.l.map ai.sz).sum:=rfl;obtain⟨r,j,q,s⟩:=RE m (qw n) l.l 0 ⟨by omega,g⟩ (by omega) (by omega) (fun x hx m' t u=>by
   have v:=Sl.dh (f:=ai.sz) hx; have w:=x.sub_lt;exact b _ _ (by omega) (by omega) (by omega) (by omega))
  rw [qw,j];exact⟨r,rfl,by omega,by omega⟩
theorem JH (l:Sl ai) (h:Sl.sz ai.sz l<=1048576):∃r,x_ l 600=some r/\0<=r/\r<=(Sl.sz ai.sz l:Nat):=RG F0 l 600 (by rw [ep]; omega) h (by omega) (by omega)
theorem RH (l:List bJ) (s:Int) (q:0<=s) (g:s+((l.map bJ.sz).sum:Nat)<=1073741824) (b:∀a∈l,a.sz<=1048576):∃r,og l s=some r/\0<=r/\r<=s+((l.map bJ.sz).sum:Nat):=by
 induction l generalizing s with
 | nil=>exact⟨s,rfl,by omega,by simp⟩
 | cons x r j =>
  have h1:=b x List.mem_cons_self; have h2:=x.bH;have t:=Sl.gR (f:=bN.sz) x.fe bN.pos;simp only [List.map_cons,List.sum_cons] at g ⊢;rw [og];cases decide (s<=600) with
  | false=>exact⟨s,rfl,by omega,by omega⟩
  | true =>
   simp only [on,cond_true];rw [fq (by omega)];obtain⟨w,k,u,v⟩:=JH x.aK (by omega);simp only [oB,k];rw [fq (by omega)];simp only [oB];obtain⟨z,m,B,C⟩:=j (s+(x.fe.l.length:Nat)+w) (by omega) (by omega) (fun y p=>b y (List.mem_cons_of_mem _ p));exact⟨z,m,by omega,by omega⟩
theorem RI (l:List aY) (s:Int) (p:0<=s) (f:s+((l.map aY.sz).sum:Nat)<=2147483648) (b:∀a∈l,a.sz<=1048576):∃r,mL l s=some r/\0<=r/\r<=s+((l.map aY.sz).sum:Nat):=by
 induction l generalizing s with
 | nil=>exact⟨s,rfl,by omega,by simp⟩
 | cons x r g =>
  have h1:=b x List.mem_cons_self; have h2:=x.bH;simp only [List.map_cons,List.sum_cons] at f ⊢;rw [mL];cases decide (s<=600) with
  | false=>exact⟨s,rfl,by omega,by omega⟩
  | true =>
   simp only [on,cond_true];obtain⟨w,j,q,t⟩:=JH x.aK (by omega);simp only [oB,j];rw [fq (by omega)];simp only [oB];obtain⟨z,k,u,v⟩:=g (s+w) (by omega) (by omega) (fun y m=>b y (List.mem_cons_of_mem _ m));exact⟨z,k,by omega,by omega⟩
theorem RJ (q:aR) (h:q.sz<=1048576):Ok (ya q):=by
 have hl:=q.lens; have hd:=q.bH;have h1:Sl.sz bJ.sz q.bw=1+(q.bw.l.map bJ.sz).sum:=rfl;have h2:Sl.sz aY.sz q.aL=1+(q.aL.l.map aY.sz).sum:=rfl;unfold ya;rw [fq (by omega)];obtain⟨r,f,j,k⟩:=RH q.bw.l ((q.bw.l.length:Nat)+(q.aL.l.length:Nat)) (by omega) (by omega) fun a b=>by have:=aR.xY b; omega
 simp only [oB,f,on];obtain⟨w,g,m,p⟩:=RI q.aL.l r (by omega) (by omega) fun a b=>by have:=aR.xZ b; omega
 simp only [oB,g];exact b7 _
theorem RL {α:Type}{l r:List α}{i:Nat}{x:α}(h:l.drop i=x::r):l[i]?=some x/\l.drop (i+1)=r:=by
 have hi:i<l.length:=by
  rcases Nat.lt_or_ge i l.length with c|c
  ·exact c
  ·rw [List.drop_of_length_le c] at h; cases h
 rw [List.drop_eq_getElem_cons hi] at h;simp only [List.cons.injEq] at h;exact⟨by rw [List.getElem?_eq_getElem hi,h.1],h.2⟩
def Tl {α:Type}(o:Option (Sl α)) (b:Nat):Prop:=∃r,o=some r/\r.l.length<=b
theorem Tl.mono {α:Type}{o:Option (Sl α)}{a b:Nat}(h:Tl o a) (f:a<=b):Tl o b:=by obtain⟨r,h1,h2⟩:=h; exact⟨r,h1,by omega⟩
theorem JI {s r:Sl Z9}(h:s.l.length+r.l.length<=1073741824):∃v,bq 24 s r=some v/\v.l.length=s.l.length+r.l.length:=⟨_,fU (by decide) (by omega),by simp⟩
theorem Tl.RM {s:Sl Z9}{x:Z9}{b:Nat}(h:s.l.length<=b) (f:b<=1000000000):Tl ((bq 24 s (⟨false,[x]⟩:Sl Z9)).bind fun y=>some y) (b+1):=by
 obtain⟨v,h1,h2⟩:=JI (s:=s) (r:=⟨false,[x]⟩) (by simp; omega);exact⟨v,by rw [h1]; rfl,by rw [h2]; simp; omega⟩
theorem Tl.bind {α β:Type}{o:Option (Sl α)}{k:Sl α->Option (Sl β)}{a b:Nat}(h:Tl o a) (hk:∀r:Sl α,r.l.length<=a->Tl (k r) b):Tl (o.bind k) b:=by
 obtain⟨r,h1,h2⟩:=h;rw [h1]; exact hk r h2
theorem Bs.gQ (s:Bs):s.length<=Bs.sz s:=Nat.le_succ _
theorem Tl.JJ {s:Sl Z9}{o:Option (Sl Z9)}{a b c:Nat}{k:Sl Z9->Option (Sl Z9)}(g:s.l.length<=a) (h:Tl o b) (j:a+b<=1000000000) (hk:∀r:Sl Z9,r.l.length<=a+b->Tl (k r) c):Tl (o.bind fun x=>(bq 24 s x).bind k) c:=by
 obtain⟨r,h1,h2⟩:=h;obtain⟨v,f,m⟩:=JI (s:=s) (r:=r) (by omega);rw [h1,oB,f,oB];exact hk v (by omega)
theorem RN (d:an) (n:Bs):(fH d n).1∈d.aA.l\/(fH d n).1.bG.l=[]:=by
 unfold fH;simp only [on];have:∀l:List ay,(match kJ n l with|Sum.inl _=>True|Sum.inr e=>e.1∈l):=by
  intro l;induction l with
  | nil=>exact trivial
  | cons a r b =>
   rw [kJ];simp only [on];cases hq:a.aa==n
   ·simp only [cond_false]
    revert b
    cases kJ n r with
    | inl u=>intro _; exact trivial
    | inr e=>intro b; exact .tail _ b
   ·exact .head _
 have h:=this d.aA.l
 revert h
 cases kJ n d.aA.l with
 | inl u=>intro _; exact .inr rfl
 | inr e=>intro h; exact .inl h
theorem JK {t:ax}(h:t.av.l.length<=1048576) (h1:1<=t.av.l.length):p8 t=some ⟨t.aa,⟨false,t.av.l.drop 1⟩⟩:=by
 unfold p8;rw [AH h1,oB,fU (by decide) (by simp; omega)];simp
theorem RO {t:ax}(h:t.av.l.length<=1048576):∃u,lI t=some u/\u.av.l.length<=t.av.l.length/\(iD t=true->u.av.l.length<t.av.l.length):=by
 unfold lI;simp only [on];cases hn:iD t
 ·rw [cond_false,fU (by decide) (by simp; omega)];exact⟨_,rfl,by simp,fun h=>by cases h⟩
 ·have h1:1<=t.av.l.length:=by
   unfold iD at hn;cases hw:t.av.l with
   | nil=>rw [hw] at hn; cases hn
   | cons a r=>simp
  rw [cond_true,JK h h1];exact⟨_,rfl,by simp,fun _=>by simp; omega⟩
theorem RP {t:ax}(h:t.av.l.length<=1048576):∃u b,mM t=some (u,b)/\(b=true->u.av.l.length<t.av.l.length):=by
 obtain⟨u,h1,h2,-⟩:=RO h;unfold mM uK;rw [h1,oB];simp only [on,oB];cases hl:(decide ((0:Int)<((u.av.l.length:Nat):Int))&&decide ((bif decide ((0:Int)<((u.av.l.length:Nat):Int)) then(u.av.l[0]?).getD 0 else 0)=2))
 ·exact⟨_,false,rfl,fun h=>by cases h⟩
 ·simp only [Bool.and_eq_true,decide_eq_true_eq] at hl;rw [Bool.not_true,cond_false,JK (by omega) (by omega),oB];exact⟨_,true,rfl,fun _=>by simp; omega⟩
def fz (w:List Int):Bool:=w.head?==some 1
def eZ (w:List Int):Bool:=w.head?==some 2
def cQ (s:Sl Int):Sl Int:=bif fz s.l then⟨s.nl,s.l.drop 1⟩ else s
def uR (t:ax):ax:=⟨t.aa,cQ t.av⟩
def jO (t:ax):ax:=⟨t.aa,⟨(cQ t.av).nl,(cQ t.av).l.drop 1⟩⟩
theorem A8 {s:Sl Int}(h:bX s):mN s=some s:=by
 unfold mN;obtain⟨nl,l⟩:=s;cases nl with
 | true=>have:=h.1 rfl; simp only at this; subst this; rfl
 | false =>
  simp only [cond_false];rw [fU (by omega) (by have:=h.2; simp at this ⊢; omega)];simp
theorem A9 (t:ax):ij t=fz t.av.l:=by
 unfold ij fz on;cases t.av.l with
 | nil=>rfl
 | cons a r=>simp; by_cases h:a=1<;>simp [h]
theorem ET {w:List Int}(h:fz w=true):1<=w.length:=by cases w<;>simp [fz] at h ⊢
theorem EU {α:Type}{s:Sl α}(n:Nat) (h:bX s):bX ⟨s.nl,s.l.drop n⟩:=⟨fun e=>by simp [h.1 e],by have:=h.2; simp; omega⟩
theorem RQ {s:Sl Int}(h:bX s):bX (cQ s):=by
 unfold cQ;cases fz s.l with
 | true=>exact EU 1 h
 | false=>exact h
theorem yb {t:ax}(h:bX t.av):bX (jO t).av:=EU 1 (RQ h)
theorem JL {t:ax}(h:bX t.av):uS t=some (uR t):=by
 unfold uS uR cQ on;simp only [A9];cases hn:fz t.av.l with
 | true =>
  simp only [cond_true];rw [AH (ET hn)];simp only [oB];rw [A8 (EU 1 h)]; rfl
 | false =>
  simp only [cond_false,oB];rw [A8 h]; rfl
theorem JM {t:ax}(h:bX t.av):sx t=some (eZ (cQ t.av).l):=by
 unfold sx;rw [JL h];simp only [oB,on,uR,eZ];cases (cQ t.av).l with
 | nil=>rfl
 | cons a r=>simp; by_cases h:a=2<;>simp [h]
theorem A_ {w:List Int}(h:eZ w=true):1<=w.length:=by cases w<;>simp [eZ] at h ⊢
theorem yc {t:ax}(h:bX t.av):oh t=some (bif eZ (cQ t.av).l then(jO t,true) else(⟨[],Sl.nil⟩,false)):=by
 unfold oh;rw [JM h];simp only [oB];cases hl:eZ (cQ t.av).l with
 | false=>rfl
 | true =>
  simp only [Bool.not_true,cond_false,cond_true];rw [JL h];simp only [oB,uR];rw [AH (A_ hl)];rfl
theorem EV {t:ax}(h:eZ (cQ t.av).l=true):(jO t).av.l.length<t.av.l.length:=by
 have h1:=A_ h;have h2:(cQ t.av).l.length<=t.av.l.length:=by
  unfold cQ; cases fz t.av.l<;>simp
 simp [jO]; omega
theorem findAux (l:List ay) (s:Bs):lN s l=(match l.find? (fun t=>t.aa==s) with|some t=>Sum.inr (t,true)|none=>Sum.inl ()):=by
 induction l with
 | nil=>rfl
 | cons a r b =>
  rw [lN,List.find?_cons];simp only [on,b];cases a.aa==s<;>rfl
def bY (l:List ay) (s:Bs):ay×Bool:=match l.find? (fun t=>t.aa==s) with|some t=>(t,true)|none=>(ay.zero,false)
theorem yd (d:an) (s:Bs):cL d s=bY d.aA.l s:=by
 unfold cL bY on;rw [findAux];cases d.aA.l.find? (fun t=>t.aa==s)<;>rfl
theorem Ba (l:List ay) (s:Bs):(bY l s).1=ay.zero\/(bY l s).1∈l:=by
 unfold bY;cases h:l.find? (fun t=>t.aa==s) with
 | none=>exact .inl rfl
 | some t=>exact .inr (List.mem_of_find?_eq_some h)
theorem RR (l:List aT) (s:Bs):lP s l=(match l.find? (fun t=>t.aa==s) with|some t=>Sum.inr (t,true)|none=>Sum.inl ()):=by
 induction l with
 | nil=>rfl
 | cons a r b =>
  rw [lP,List.find?_cons];simp only [on,b];cases a.aa==s<;>rfl
def eT (l:List aT) (s:Bs):aT×Bool:=match l.find? (fun t=>t.aa==s) with|some t=>(t,true)|none=>(aT.zero,false)
theorem JN (t:ay) (s:Bs):kM t s=eT t.bA.l s:=by
 unfold kM eT on;rw [RR];cases t.bA.l.find? (fun t=>t.aa==s)<;>rfl
theorem RS (l:List az) (s:Bs):lQ s l=(match l.find? (fun t=>t.aa==s) with|some t=>Sum.inr (t,true)|none=>Sum.inl ()):=by
 induction l with
 | nil=>rfl
 | cons a r b =>
  rw [lQ,List.find?_cons];simp only [on,b];cases a.aa==s<;>rfl
def eU (l:List az) (s:Bs):az×Bool:=match l.find? (fun t=>t.aa==s) with|some t=>(t,true)|none=>(az.zero,false)
theorem JO (t:Sl az) (s:Bs):iq t s=eU t.l s:=by
 unfold iq eU on;rw [RS];cases t.l.find? (fun t=>t.aa==s)<;>rfl
def fP (d:an):Prop:=∀x∈d.aA.l,x.bA.l.length<=1048576/\x.bG.l.length<=1048576/\(∀f∈x.bA.l,bX f.aM.av/\f.aG.l.length<=1048576/\∀i∈f.aG.l,bX i.aM.av)/\∀i∈x.bG.l,bX i.aM.av
theorem ax.ye {r:ax}(h:r.sz<=1048576) (hw:r.wf):bX r.av:=⟨hw.2.1.1,by have:=r.bH; have:=Sl.gQ (f:=fun _:Int=>1) r.av (fun _=>Nat.le_refl _); omega⟩
theorem az.ye {r:az}(h:r.sz<=1048576) (hw:r.wf):bX r.aM.av:=ax.ye (by have:=r.bH; omega) (az.nU hw)
theorem RU {d:an}(h:d.sz<=1048576) (hw:d.wf):fP d:=by
 intro x hx;have h1:=x.bH; have h2:=d.bH; have g:=Sl.dh (f:=ay.sz) hx;have j:=Sl.gR (f:=aT.sz) x.bA aT.pos; have k:=Sl.gR (f:=az.sz) x.bG az.pos;have w:x.wf:=(an.AL hw).2.2 x hx;refine⟨by omega,by omega,fun f b=>?_,fun i hi=>?_⟩
 ·have l:=Sl.dh (f:=aT.sz) b; have m:=f.bH; have p:=Sl.gR (f:=az.sz) f.aG az.pos;have wf:f.wf:=(ay.Ec w).2.2 f b;exact⟨ax.ye (by omega) (aT.nU wf),by omega,fun i hi=>az.ye (by have:=Sl.dh (f:=az.sz) hi; omega) ((aT.Jk wf).2.2 i hi)⟩
 ·exact az.ye (by have:=Sl.dh (f:=az.sz) hi; omega) ((ay.Ed w).2.2 i hi)
theorem Bb {d:an}(h:fP d) (s:Bs):(bY d.aA.l s).1.bA.l.length<=1048576/\(bY d.aA.l s).1.bG.l.length<=1048576/\(∀f∈(bY d.aA.l s).1.bA.l,bX f.aM.av/\f.aG.l.length<=1048576/\∀i∈f.aG.l,bX i.aM.av)/\∀i∈(bY d.aA.l s).1.bG.l,bX i.aM.av:=by
 rcases Ba d.aA.l s with e|e
 ·rw [e]; exact⟨by simp [ay.zero,Sl.nil],by simp [ay.zero,Sl.nil],by simp [ay.zero,Sl.nil],by simp [ay.zero,Sl.nil]⟩
 ·exact h _ e
theorem RV:bX az.zero.aM.av:=⟨fun _=>rfl,by decide⟩
theorem JP {l:List az}(h:∀i∈l,bX i.aM.av) (s:Bs):bX (eU l s).1.aM.av:=by
 unfold eU;cases e:l.find? (fun t=>t.aa==s) with
 | none=>exact RV
 | some t=>exact h _ (List.mem_of_find?_eq_some e)
theorem EW {l:List aT}(h:∀f∈l,bX f.aM.av/\f.aG.l.length<=1048576/\∀i∈f.aG.l,bX i.aM.av) (s:Bs):bX (eT l s).1.aM.av/\(eT l s).1.aG.l.length<=1048576/\∀i∈(eT l s).1.aG.l,bX i.aM.av:=by
 unfold eT;cases e:l.find? (fun t=>t.aa==s) with
 | none=>exact⟨⟨fun _=>rfl,by decide⟩,by decide,fun i hi=>by cases hi⟩
 | some t=>exact h _ (List.mem_of_find?_eq_some e)
theorem RW (l:List af) (p:af->Option Bool) (i:Nat) (h:∀x∈l,Ok (p x)):Ok (sA p l i):=by
 induction l generalizing i with
 | nil=>exact b7 _
 | cons x r b =>
  have hr:=b (i+1) fun y f=>h y (List.mem_cons_of_mem _ f);have hx:=h x List.mem_cons_self;rw [sA];simp only [on]
  (repeat' (first|exact b7 _|assumption|intro _|(with_reducible first|apply dO|apply dQ|apply dB|apply dJ)|split))
theorem RX (l:Sl af) (p:af->Option Bool) (h:∀x∈l.l,Ok (p x)):Ok (yf l p):=by
 unfold yf Bc;have h1:=RW l.l p 0 h
 (repeat' (first|exact b7 _|assumption|intro _|(with_reducible first|apply dO|apply dQ|apply dB|apply dJ)|split))
theorem RY (d:an) (f:ay) (v:af) (k:an->ax->af->Option Bool) (l:List Bs) (i:Nat) (h:∀t x,bX t.av->x∈v.aB.l->Ok (k d t x)) (hd:∀i∈f.bG.l,bX i.aM.av):Ok (qx d f v k l i):=by
 induction l generalizing i with
 | nil=>exact b7 _
 | cons x r m =>
  have hr:=m (i+1);rw [qx];simp only [on,JO];have j:=JP hd x;generalize eU f.bG.l x=y at j;by_cases hi:i<v.aB.l.length
  ·obtain⟨b,p⟩:=h _ _ j (List.getElem_mem hi);have g:decide (((v.aB.l.length:Nat):Int)<=((i:Nat):Int))=false:=by simp; omega
   simp only [List.getElem?_eq_getElem hi,g,Bool.or_false];cases y.2<;>simp only [a_,Bool.not_false,Bool.not_true,if_true,Bool.false_eq_true,if_false,oB,p,Bool.true_or,Bool.false_or,cond_true]
   ·exact b7 _
   ·(repeat' (first|exact b7 _|assumption|intro _|(with_reducible first|apply dO|apply dQ|apply dB|apply dJ)|split))
  ·have g:decide (((v.aB.l.length:Nat):Int)<=((i:Nat):Int))=true:=by simp; omega
   simp only [g,Bool.or_true,a_,Bool.not_true,Bool.false_eq_true,if_false,Bool.true_or,cond_true];exact b7 _
theorem RZ (d:an) (hd:fP d) (n:Nat) :
  (∀(t:ax) (v:af),bX t.av->2*(v.sz*2097152+t.av.l.length)+2<n->Ok (jP n d t v)) /\
  (∀(v:af) (t:ax),bX t.av->2*(v.sz*2097152+t.av.l.length)+3<n->Ok (sC n v d t)) /\
  (∀(x:ay) (v:af),(∀i∈x.bG.l,bX i.aM.av)->2*(v.sz*2097152)+1<n->Ok (uT n d x v)):=by
 induction n with
 | zero=>exact⟨fun _ _ _ h=>by omega,fun _ _ _ h=>by omega,fun _ _ _ h=>by omega⟩
 | succ n f =>
  obtain⟨b,g,j⟩:=f;refine⟨fun t v ht h=>?_,fun v t ht h=>?_,fun x v hx h=>?_⟩
  ·rw [jP];simp only [yc ht,oB,yd];refine dB (fun _=>b7 _) fun _=>dJ fun _ _=>dB (fun _=>b7 _) fun _=>dB (fun _=>dJ fun _ _=>b7 _) fun _=>?_;cases hl:eZ (cQ t.av).l with
   | true =>
    have h1:=EV hl; have h2:=yb ht; have m:=h2.2; have p:=ht.2;simp only [cond_true]
    (repeat' (first|exact b7 _|assumption|intro _|(with_reducible first|apply dO|apply dQ|apply dB|apply dJ)|split))
    ·exact b _ _ h2 (by omega)
    ·exact RX _ _ fun x hx=>g x _ h2 (by have:=af.nZ hx; omega)
   | false =>
    simp only [cond_false]
    (repeat' (first|exact b7 _|assumption|intro _|(with_reducible first|apply dO|apply dQ|apply dB|apply dJ)|split))
    rename_i hx _ _
    rw [hx];exact j _ _ (Bb hd _).2.2.2 (by omega)
  ·rw [sC];exact dO (b t v ht (by omega)) fun _ _=>b7 _
  ·rw [uT];have h1:=RY d x v (jP n) v.aX.l 0 (fun t y ht k=>b t y ht (by have:=af.nZ k; have:=ht.2; omega)) hx
   (repeat' (first|exact b7 _|assumption|intro _|(with_reducible first|apply dO|apply dQ|apply dB|apply dJ)|split))
def yg (d:an) (t:ax) (v:af):Bool:=(Bd d t v).getD false
theorem R1 {d:an}(hd:fP d){t:ax}{v:af}(ht:bX t.av) (hv:v.sz<=1048576):Bd d t v=some (yg d t v):=by
 obtain⟨b,f⟩:=(RZ d hd F0).1 t v ht (by have:=ht.2; rw [ep]; omega);have:Bd d t v=some b:=f;simp [yg,this]
def iV (c:Z2) (X:List Z9):Z2:=⟨c.Fd,c.Fq,⟨c.aC.nl&&X.isEmpty,c.aC.l++X⟩⟩
theorem EX (c:Z2):iV c []=c:=by obtain⟨d,q,nl,l⟩:=c; simp [iV]
theorem JQ (c:Z2) (X Y:List Z9):iV (iV c X) Y=iV c (X++Y):=by
 cases X<;>cases Y<;>simp [iV]
def dy (d:an) (f:Z2->Option Z2) (X:List Z9):Prop:=∀c,c.Fd=d->c.aC.l.length+X.length<=4398046511104->f c=some (iV c X)
theorem dy.bind {d:an}{f g:Z2->Option Z2}{X Y:List Z9}(h:dy d f X) (h2:dy d g Y):dy d (fun c=>(f c).bind g) (X++Y):=by
 intro c hc b;simp only [List.length_append] at b;show (f c).bind g=_;rw [h c hc (by omega),oB,h2 (iV c X) hc (by simp only [iV,List.length_append]; omega),JQ]
theorem dy.id {d:an}:dy d (fun c=>some c) []:=fun c _ _=>by rw [EX]
theorem dy.of {d:an}{f g:Z2->Option Z2}{X Y:List Z9}(h:dy d g Y) (e:X=Y) (h2:∀c,c.Fd=d->f c=g c):dy d f X:=by
 subst e; intro c hc b; rw [h2 c hc]; exact h c hc b
theorem dy.cond {d:an}{f g:Z2->Option Z2}{X Y:List Z9}(b:Bool) (h:dy d f X) (h2:dy d g Y):dy d (fun c=>_root_.cond b (f c) (g c)) (_root_.cond b X Y):=by cases b<;>assumption
def jQ (b:Bool) (e:Int) (at_:Bs):List Z9:=bif b then [⟨e,at_⟩] else []
theorem ol (d:an) (b:Bool) (e:Int) (at_:Bs):dy d (fun c=>ir c b e at_) (jQ b e at_):=by
 intro c hc f;show ir c b e at_=_;unfold ir jQ at *;cases b with
 | false=>rw [cond_false,cond_false,EX]
 | true =>
  simp only [cond_true,List.length_cons,List.length_nil] at f ⊢;rw [jL (by omega) (by simp only [List.length_cons,List.length_nil]; omega)];rfl
def Be (v:af):Bool:=(decide (v.aj=7)||(decide (v.aj=3)&&(v.bK==[])))||(decide (v.aj=2)&&decide (v.bL<0))
def mQ (d:an) (b:Sl az) (all:Sl aO) (strict:Bool) (at_:Bs):List aO->Nat->List Z9
 | [],_=>[]
 | x::r,i=>(bif (!(eU b.l x.aa).2)||(lR ⟨all.nl,all.l.take i⟩ x.aa).2 then jQ true 22 at_ else jQ ((!yg d (eU b.l x.aa).1.aM x.dr)||(strict&&Be x.dr)) 23 at_)++mQ d b all strict at_ r (i+1)
theorem R2 {d:an}(hd:fP d) (b:Sl az) (f:∀i∈b.l,bX i.aM.av) (all:Sl aO) (strict:Bool) (at_:Bs) (l:List aO) (i:Nat) (hl:∀a∈l,a.sz<=1048576) :
  dy d (fun c=>oo b all strict at_ l i c) (mQ d b all strict at_ l i):=by
 induction l generalizing i with
 | nil=>exact dy.id
 | cons x r g =>
  have hx:=hl x List.mem_cons_self;refine dy.of ((dy.cond _ (ol d true 22 at_) (ol d ((!yg d (eU b.l x.aa).1.aM x.dr)||(strict&&Be x.dr)) 23 at_)).bind (g (i+1) fun y j=>hl y (List.mem_cons_of_mem _ j))) rfl fun c hc=>?_;rw [oo];simp only [on,JO,hc,R1 hd (JP f x.aa) (show x.dr.sz<=1048576 by have:=x.qf; omega),oB,Be,Q.pV]
theorem JR {d:an}(hd:fP d) (b:Sl az) (f:∀i∈b.l,bX i.aM.av) (all:Sl aO) (strict:Bool) (at_:Bs) (hl:∀a∈all.l,a.sz<=1048576) :
  dy d (fun c=>qy c b all strict at_) (mQ d b all strict at_ all.l 0):=by
 refine dy.of (R2 hd b f all strict at_ all.l 0 hl) rfl fun c hc=>?_;unfold qy;exact Q.pV _
def uU (at_:Bs) (x:Sl aO):List az->List Z9
 | []=>[]
 | y::r=>jQ (!(lR x y.aa).2) 22 at_++uU at_ x r
theorem R3 (d:an) (at_:Bs) (x:aP) (l:List az):dy d (fun c=>oq at_ x l c) (uU at_ x.aG l):=by
 induction l with
 | nil=>exact dy.id
 | cons y r b=>exact dy.of ((ol d _ 22 at_).bind b) rfl fun c hc=>by rw [oq]; rfl
def qz (at_:Bs) (x:Sl aO):List az->List Z9
 | []=>[]
 | y::r=>jQ ((ij y.aM&&!y.eC)&&!(lR x y.aa).2) 22 at_++qz at_ x r
theorem R4 (d:an) (at_:Bs) (x:ai) (l:List az):dy d (fun c=>ot x at_ l c) (qz at_ x.aG l):=by
 induction l with
 | nil=>exact dy.id
 | cons y r b=>exact dy.of ((ol d _ 22 at_).bind b) rfl fun c hc=>by rw [ot]; rfl
def sD (s t:Bs):az:=⟨s,⟨t,⟨false,[1]⟩⟩,false,af.zero,Sl.nil⟩
def sF (name:Bs) (field:Bool):Sl az :=
 bif (name==[115,107,105,112])||(name==[105,110,99,108,117,100,101]) then⟨false,[sD [105,102] [66,111,111,108,101,97,110]]⟩
 else bif (name==[100,101,102,101,114])&&!field then⟨false,[sD [108,97,98,101,108] [83,116,114,105,110,103]]⟩
 else bif (name==[115,116,114,101,97,109])&&field then⟨false,[sD [108,97,98,101,108] [83,116,114,105,110,103],sD [105,110,105,116,105,97,108,67,111,117,110,116] [73,110,116]]⟩
 else Sl.nil
theorem R5 (s t:Bs):qA s t=some (sD s t):=by
 unfold qA ou;simp only [on,A9,ov,Sl.nil,fz,List.head?_nil];rw [show (none==some (1:Int))=false from rfl,cond_false];rw [fU (by omega) (by simp)];rfl
theorem R6 (name:Bs) (field:Bool):yh name field=some (sF name field):=by
 unfold yh sF;simp only [R5,oB];cases (name==[115,107,105,112])||(name==[105,110,99,108,117,100,101])<;>cases (name==[100,101,102,101,114])&&!field<;>cases (name==[115,116,114,101,97,109])&&field<;>rfl
theorem R7 (name:Bs) (field:Bool):(sF name field).l.length<=2/\∀i∈(sF name field).l,bX i.aM.av:=by
 have h:∀s t,bX (sD s t).aM.av:=fun s t=>⟨fun h=>(by cases h),by simp [sD]⟩;unfold sF;cases (name==[115,107,105,112])||(name==[105,110,99,108,117,100,101])<;>cases (name==[100,101,102,101,114])&&!field<;>cases (name==[115,116,114,101,97,109])&&field<;>simp [Sl.nil,h]
def jR (field:Bool) (t:ax) (is:Bool) (x:aP):Sl az:=bif ((x.aa==[115,116,114,101,97,109])&&is)&&!(eZ (cQ t.av).l) then Sl.nil else sF x.aa field
def EY (d:an) (s:ai) (t:ax) (is:Bool) (at_:Bs) (x:aP) (i:Nat):List Z9 :=
 bif (jR ((!decide (s.aj=2))&&!decide (s.aj=3)) t is x).nl||(bif !(jR ((!decide (s.aj=2))&&!decide (s.aj=3)) t is x).nl then yj (bif !(jR ((!decide (s.aj=2))&&!decide (s.aj=3)) t is x).nl then⟨s.bS.nl,s.bS.l.take i⟩ else Sl.nil) (fun y=>uV y x) else false) then jQ true 29 at_
 else mQ d (jR ((!decide (s.aj=2))&&!decide (s.aj=3)) t is x) x.aG ((x.aa==[100,101,102,101,114])||(x.aa==[115,116,114,101,97,109])) at_ x.aG.l 0++uU at_ x.aG (jR ((!decide (s.aj=2))&&!decide (s.aj=3)) t is x).l
def mR (d:an) (s:ai) (t:ax) (is:Bool) (at_:Bs):List aP->Nat->List Z9
 | [],_=>[]
 | x::r,i=>EY d s t is at_ x i++mR d s t is at_ r (i+1)
theorem JS (field:Bool) (t:ax) (is:Bool) (x:aP):(jR field t is x).l.length<=2/\∀i∈(jR field t is x).l,bX i.aM.av:=by
 unfold jR;cases ((x.aa==[115,116,114,101,97,109])&&is)&&!(eZ (cQ t.av).l) with
 | true=>exact⟨by simp [Sl.nil],fun i hi=>by cases hi⟩
 | false=>exact R7 _ _
theorem R8 {α:Type}(b:Bool){t:ax}(h:bX t.av) (k:Bool->Option α):a_ b (sx t) false k=k (b&&eZ (cQ t.av).l):=by
 cases b with
 | false=>rfl
 | true=>rw [JM h]; rfl
theorem R9 {d:an}(hd:fP d) (s:ai){t:ax}(ht:bX t.av) (is:Bool) (at_:Bs) (l:List aP) (i:Nat) (hl:∀a∈l,a.sz<=1048576) :
  dy d (fun c=>mS s t is at_ l i c) (mR d s t is at_ l i):=by
 induction l generalizing i with
 | nil=>exact dy.id
 | cons x r b =>
  have hx:=hl x List.mem_cons_self;have hk:=JR hd (jR ((!decide (s.aj=2))&&!decide (s.aj=3)) t is x) (JS _ _ _ _).2 x.aG ((x.aa==[100,101,102,101,114])||(x.aa==[115,116,114,101,97,109])) at_ fun a f=>by have:=aP.A6 f; omega
  refine dy.of ((dy.cond _ (ol d true 29 at_) (hk.bind (R3 d at_ x _))).bind (b (i+1) fun y g=>hl y (List.mem_cons_of_mem _ g))) rfl fun c hc=>?_;rw [mS];simp only [on,R6,oB,R8 _ ht,Q.pV];have e:(bif ((x.aa==[115,116,114,101,97,109])&&is)&&!((x.aa==[115,116,114,101,97,109])&&is&&eZ (cQ t.av).l) then(Sl.nil:Sl az) else sF x.aa ((!decide (s.aj=2))&&!decide (s.aj=3)))=jR ((!decide (s.aj=2))&&!decide (s.aj=3)) t is x:=by
   unfold jR;cases ((x.aa==[115,116,114,101,97,109])&&is)<;>rfl
  simp only [e]
theorem EZ {d:an}(hd:fP d) (s:ai){t:ax}(ht:bX t.av) (is:Bool) (at_:Bs) (hl:∀a∈s.bS.l,a.sz<=1048576) :
  dy d (fun c=>mU c s t is at_) (mR d s t is at_ s.bS.l 0):=by
 refine dy.of (R9 hd s ht is at_ s.bS.l 0 hl) rfl fun c hc=>?_;unfold mU;exact Q.pV _
def sG:Bs:=[95,95,116,121,112,101,110,97,109,101]
def eF (d:an) (b f:Bs):ax×Bool :=
 bif !fC d b then(⟨[],Sl.nil⟩,false)
 else bif f==sG then(⟨[83,116,114,105,110,103],⟨false,[1]⟩⟩,true)
 else bif !(eT (bY d.aA.l b).1.bA.l f).2 then(⟨[],Sl.nil⟩,false)
 else(⟨(eT (bY d.aA.l b).1.bA.l f).1.aM.aa,(eT (bY d.aA.l b).1.bA.l f).1.aM.av⟩,true)
theorem Bf {d:an}(hd:fP d) (b f:Bs):sI d b f=some (eF d b f):=by
 unfold sI eF;simp only [on,yd,JN,ov,A8 (EW (Bb hd b).2.2.1 f).1,oB];have g:ou ⟨[83,116,114,105,110,103],Sl.nil⟩=some ⟨[83,116,114,105,110,103],⟨false,[1]⟩⟩:=by kernel_rfl
 rw [g];cases fC d b with
 | false=>rfl
 | true =>
  simp only [Bool.not_true,cond_false];show (bif f==sG then _ else _)=some (bif f==sG then _ else _);cases f==sG with
  | true=>rfl
  | false =>
   simp only [cond_false];cases (eT (bY d.aA.l b).1.bA.l f).2<;>rfl
theorem R_ {d:an}(hd:fP d) (b f:Bs):bX (eF d b f).1.av:=by
 have h1:=(EW (Bb hd b).2.2.1 f).1;unfold eF;cases fC d b with
 | false=>exact⟨fun _=>rfl,by simp [Sl.nil]⟩
 | true =>
  simp only [Bool.not_true,cond_false];cases f==sG with
  | true=>exact⟨fun h=>(by cases h),by simp⟩
  | false =>
   simp only [cond_false];cases (eT (bY d.aA.l b).1.bA.l f).2 with
   | false=>exact⟨fun _=>rfl,by simp [Sl.nil]⟩
   | true=>exact h1
def sJ (s:ai):Bs:=bif s.cq==[] then s.aa else s.cq
def gW (s:ai) (at_:Bs):Bs:=at_++([47]++sJ s)
def jS (d:an) (s:ai) (b:Bs):aT:=bif !(s.aa==sG) then(eT (bY d.aA.l b).1.bA.l s.aa).1 else⟨[],Sl.nil,ax.zero,Sl.nil⟩
def Bg (d:an) (s:ai) (t:ax) (at_:Bs):List Z9 :=
 jQ ((qB d t.aa&&decide ((0:Int)<((s.aK.l.length:Nat):Int)))||((bif !(qB d t.aa&&decide ((0:Int)<((s.aK.l.length:Nat):Int))) then fC d t.aa else false)&&decide (((s.aK.l.length:Nat):Int)=0))) 21 at_
def Bh (d:an) (s:ai) (b at_:Bs):List Z9 :=
 jQ (sK s.cq) 6 at_++(jQ ((!(eF d b s.aa).2)&&(bif !(eF d b s.aa).2 then fC d b else false)) 20 at_ ++
  ((bif (eF d b s.aa).2 then Bg d s (eF d b s.aa).1 at_++(mQ d (jS d s b).aG s.aG false at_ s.aG.l 0++qz at_ s.aG (jS d s b).aG.l) else []) ++
   mR d s (eF d b s.aa).1 (eF d b s.aa).2 at_ s.bS.l 0))
def yl (k:List ai->Bs->Bs->List Z9) (d:an) (b at_:Bs) (s:ai):List Z9 :=
 bif decide (s.aj=2) then mR d s ⟨[],Sl.nil⟩ false at_ s.bS.l 0
 else bif decide (s.aj=3) then mR d s ⟨[],Sl.nil⟩ false at_ s.bS.l 0++k s.aK.l (bif !(s.b9==[]) then s.b9 else b) at_
 else Bh d s b (gW s at_)++k s.aK.l (eF d b s.aa).1.aa (gW s at_)
def mV:Nat->an->List ai->Bs->Bs->List Z9
 | 0,_,_,_,_=>[]
 | n+1,d,l,b,at_=>l.flatMap (yl (mV n d) d b at_)
theorem JT {d:an}(hd:fP d) (s:ai) (b:Bs):(jS d s b).aG.l.length<=1048576/\∀i∈(jS d s b).aG.l,bX i.aM.av:=by
 unfold jS;cases s.aa==sG with
 | true=>exact⟨by simp [Sl.nil],fun i hi=>by cases hi⟩
 | false=>exact(EW (Bb hd b).2.2.1 _).2
theorem JU:bX (ax.mk [] Sl.nil).av:=⟨fun _=>rfl,by simp [Sl.nil]⟩
theorem ai.JV {s:ai}(g:s.sz<=1048576):(∀a∈s.bS.l,a.sz<=1048576)/\∀a∈s.aG.l,a.sz<=1048576:=by
 have h:=s.bH;exact⟨fun a b=>by have:=Sl.dh (f:=aP.sz) b; omega,fun a b=>by have:=Sl.dh (f:=aO.sz) b; omega⟩
theorem ai.Sa (s:ai) (at_:Bs):(gW s at_).length+Sl.sz ai.sz s.aK<=at_.length+s.sz:=by
 have h:=s.bH;have h1:Bs.sz s.cq=s.cq.length+1:=rfl;have h2:Bs.sz s.aa=s.aa.length+1:=rfl;unfold gW sJ;cases s.cq==[]<;>simp<;>omega
theorem Sb {d:an}(b at_:Bs) (k:Z2->Sl ai->Bs->Bs->Option Z2) (f:Z2->ai->Bs->Bs->Option Z2) (X:ai->List Z9) (l:List ai)
  (h:∀s∈l,dy d (fun c=>bif decide (s.aj=2) then(mU c s ⟨[],Sl.nil⟩ false at_) else(bif decide (s.aj=3) then((mU c s ⟨[],Sl.nil⟩ false at_).bind fun x=>k x s.aK (bif !(s.b9==[]) then s.b9 else b) at_) else(f c s b at_))) (X s)) :
  dy d (fun c=>ow b at_ k f l c) (l.flatMap X):=by
 induction l with
 | nil=>exact dy.id
 | cons s r g =>
  refine dy.of ((h s List.mem_cons_self).bind (g fun y j=>h y (List.mem_cons_of_mem _ j))) (by simp) fun c hc=>?_;rw [ow];simp only [on,Q.pV]
theorem E0 {c:Z2}{b:Bool}{e:Int}{a:Bs}{k k':Z2->Option Z2}(h:∀x:Z2,x.Fd=c.Fd->k x=k' x):(ir c b e a).bind k=(ir c b e a).bind k':=by
 unfold ir;cases b with
 | false=>exact h c rfl
 | true =>
  simp only [cond_true];cases bq 24 c.aC ⟨false,[⟨e,a⟩]⟩ with
  | none=>rfl
  | some x=>exact h _ rfl
theorem Se {d:an}(hd:fP d) (n:Nat) :
  (∀(l:Sl ai) (b at_:Bs) (m:Nat),2*Sl.sz ai.sz l<n->Sl.sz ai.sz l<=1048576->at_.length+Sl.sz ai.sz l<=1073741824->Sl.sz ai.sz l<=m->dy d (fun c=>jU n c l b at_) (mV m d l.l b at_)) /\
  (∀(s:ai) (b at_:Bs) (m:Nat),2*s.sz<n->s.sz<=1048576->at_.length+s.sz<=1073741824->s.sz<=m->dy d (fun c=>mW n c s b at_) (Bh d s b (gW s at_)++mV m d s.aK.l (eF d b s.aa).1.aa (gW s at_))):=by
 induction n with
 | zero=>exact⟨fun _ _ _ _ h=>by omega,fun _ _ _ _ h=>by omega⟩
 | succ n t =>
  obtain⟨p,u⟩:=t;refine⟨fun l b at_ m h1 h2 v w=>?_,fun s b at_ m h1 h2 v w=>?_⟩
  ·obtain⟨m,rfl⟩:∃k,m=k+1:=⟨m-1,by have:1<=Sl.sz ai.sz l:=Sl.gf _ _; omega⟩;refine dy.of (Sb b at_ (jU n) (mW n) (yl (mV m d) d b at_) l.l fun s B=>?_) rfl fun c hc=>by rw [jU]; exact Q.pV _
   have L:=Sl.dh (f:=ai.sz) B;have C:=s.sub_lt;have g:=ai.JV (s:=s) (by omega);unfold yl;exact dy.cond _ (EZ hd s JU false at_ g.1) (dy.cond _ ((EZ hd s JU false at_ g.1).bind (p _ _ _ m (by omega) (by omega) (by omega) (by omega))) (u s b at_ m (by omega) (by omega) (by omega) (by omega)))
  ·have C:=s.sub_lt;have g:=ai.JV (s:=s) (by omega);have q:=s.Sa at_;have hk:(sJ s).length+1<=s.sz:=by have:=s.bH; unfold gW at q; simp at q; omega
   have E:cC [47] (sJ s)=some ([47]++sJ s):=eY (by simp; omega);have F:cC at_ ([47]++sJ s)=some (gW s at_):=eY (by simp; omega);have G:=JT hd s b;have H:=R_ hd b s.aa;have I:dy d (fun c=>Option.bind (bif (eF d b s.aa).2 then((ir c ((qB d (eF d b s.aa).1.aa&&decide ((0:Int)<((s.aK.l.length:Nat):Int)))||((bif !(qB d (eF d b s.aa).1.aa&&decide ((0:Int)<((s.aK.l.length:Nat):Int))) then fC d (eF d b s.aa).1.aa else false)&&decide (((s.aK.l.length:Nat):Int)=0))) 21 (gW s at_)).bind fun x=>(qy x (jS d s b).aG s.aG false (gW s at_)).bind fun y=>ot s (gW s at_) (jS d s b).aG.l y) else some c) fun y=>mU y s (eF d b s.aa).1 (eF d b s.aa).2 (gW s at_)) ((bif (eF d b s.aa).2 then Bg d s (eF d b s.aa).1 (gW s at_)++(mQ d (jS d s b).aG s.aG false (gW s at_) s.aG.l 0++qz (gW s at_) s.aG (jS d s b).aG.l) else []) ++
   mR d s (eF d b s.aa).1 (eF d b s.aa).2 (gW s at_) s.bS.l 0) :=
    (dy.cond _ ((ol d _ 21 _).bind ((JR hd _ G.2 s.aG false _ g.2).bind (R4 d _ s _))) dy.id).bind (EZ hd s H _ _ g.1)
   refine dy.of (((ol d (sK s.cq) 6 (gW s at_)).bind ((ol d ((!(eF d b s.aa).2)&&(bif !(eF d b s.aa).2 then fC d b else false)) 20 (gW s at_)).bind I)).bind (p s.aK (eF d b s.aa).1.aa (gW s at_) m (by omega) (by omega) (by omega) (by omega))) rfl fun c hc=>?_;rw [mW];simp only [on,yd,JN,Q.pV];show ((cC [47] (sJ s)).bind fun J=>(cC at_ J).bind _)=_
   rw [E,oB,F,oB];simp only [Option.bind_assoc];refine E0 fun M j=>?_;simp only [j,hc,Bf hd,oB];refine E0 fun N r=>?_;simp only [r,j,hc];refine congrArg (fun z=>Option.bind (cond _ z _) _) ?_;refine E0 fun O K=>?_;simp only [K,r,j,hc];rfl
def fQ (fr:Sl aY) (seen:List Bs):Nat:=(fr.l.filter fun f=>!seen.contains f.aa).length
theorem filter_le {α:Type}{p q:α->Bool}{l:List α}(h:∀x∈l,p x=true->q x=true):(l.filter p).length<=(l.filter q).length:=by
 induction l with
 | nil=>simp
 | cons a r b =>
  have:=b fun x hx=>h x (List.mem_cons_of_mem _ hx);have h1:=h a List.mem_cons_self;simp only [List.filter_cons];cases f:p a<;>cases hq:q a<;>simp_all<;>omega
theorem filter_lt {α:Type}{p q:α->Bool}{l:List α}{y:α}(h:∀x∈l,p x=true->q x=true) (b:y∈l) (h1:p y=false) (h2:q y=true):(l.filter p).length<(l.filter q).length:=by
 induction l with
 | nil=>cases b
 | cons a r f =>
  have g:=filter_le (l:=r) (p:=p) (q:=q) fun x hx=>h x (List.mem_cons_of_mem _ hx);simp only [List.filter_cons];rcases List.mem_cons.1 b with rfl|b
  ·simp [h1,h2]; omega
  ·have:=f (fun x hx=>h x (List.mem_cons_of_mem _ hx)) b;have j:=h a List.mem_cons_self;cases k:p a<;>cases hq:q a<;>simp_all<;>omega
theorem E1 {fr:Sl aY}{a b:List Bs}(h:∀s∈a,s∈b):fQ fr b<=fQ fr a:=filter_le fun x _ f=>by
 simp at f ⊢; exact fun h2=>f (h _ h2)
theorem E2 {fr:Sl aY}{a b:List Bs}(h:∀s∈a,s∈b){f:aY}(j:f∈fr.l) (h1:f.aa∉a) (h2:f.aa∈b):fQ fr b<fQ fr a :=
 filter_lt (fun x _ g=>by simp at g ⊢; exact fun h2=>g (h _ h2)) j (by simpa using h2) (by simpa using h1)
theorem JW {l:List Bs}{s t:Bs}(h:t∈l):t∈cB l s:=by unfold cB; split<;>simp [h]
theorem Sg (l:List Bs) (s:Bs):s∈cB l s:=by
 unfold cB; split
 ·rename_i h; simpa using h
 ·simp
def iu (fr:Sl aY) (f:Z2->Option (List Bs×List Bs)) (seen:List Bs):Prop:=∃r,(∀c:Z2,c.Fq.aL=fr->f c=some r)/\∀s∈seen,s∈r.2
theorem iu.bind {fr:Sl aY}{f:Z2->Option (List Bs×List Bs)}{g:Z2->List Bs×List Bs->Option (List Bs×List Bs)}{seen:List Bs}(h:iu fr f seen) (h2:∀r:List Bs×List Bs,(∀s∈seen,s∈r.2)->iu fr (fun c=>g c r) r.2):iu fr (fun c=>(f c).bind (g c)) seen:=by
 obtain⟨r,j,b⟩:=h;obtain⟨k,l,m⟩:=h2 r b;exact⟨k,fun c hc=>by show (f c).bind _=_; rw [j c hc,oB]; exact l c hc,fun s p=>m s (b s p)⟩
theorem iu.some {fr:Sl aY}{r:List Bs×List Bs}{seen:List Bs}(h:∀s∈seen,s∈r.2):iu fr (fun _=>Option.some r) seen:=⟨r,fun _ _=>rfl,h⟩
theorem Sh {fr:Sl aY}(x:ai) (k:Z2->Sl ai->List Bs->List Bs->Option (List Bs×List Bs)) (b:List Bs) (l:List aY) (hl:∀f∈l,f∈fr.l)
  (hk:∀(f:aY) keys seen,f∈fr.l->fQ fr seen<fQ fr b->iu fr (fun c=>k c f.aK keys seen) seen) (keys seen:List Bs) (m:∀s∈b,s∈seen):iu fr (fun c=>jw c x k l keys seen) seen:=by
 induction l generalizing keys seen with
 | nil=>exact iu.some fun _ h=>h
 | cons f r j =>
  have j:=j fun y t=>hl y (List.mem_cons_of_mem _ t);have p:=hl f List.mem_cons_self;have key:iu fr (fun c=>bif (((f.aa==x.aa))&&(!(seen.contains x.aa))) then((k c f.aK keys (cB seen x.aa)).bind fun q=>some (q.1,q.2)) else(some (keys,seen))) seen:=by
   cases hc:((f.aa==x.aa))&&(!(seen.contains x.aa)) with
   | false=>exact iu.some fun _ h=>h
   | true =>
    simp at hc;have h1:fQ fr (cB seen x.aa)<fQ fr b:=Nat.lt_of_lt_of_le (E2 (fun s h=>JW h) p (by rw [hc.1]; exact hc.2) (by rw [hc.1]; exact Sg _ _)) (E1 m);obtain⟨r,h2,u⟩:=hk f keys (cB seen x.aa) p h1;exact⟨r,fun c v=>by show Option.bind _ _=_; rw [show k c f.aK keys (cB seen x.aa)=_ from h2 c v]; rfl,fun s h=>u s (JW h)⟩
  obtain⟨w,h1,h2⟩:=key.bind (g:=fun c z=>jw c x k r z.1 z.2) fun z hz=>j z.1 z.2 fun s h=>hz s (m s h);exact⟨w,fun c hc=>by show jw c x k (f::r) keys seen=_; rw [jw]; exact h1 c hc,h2⟩
theorem Si {fr:Sl aY}(k:Z2->Sl ai->List Bs->List Bs->Option (List Bs×List Bs)) (b:List Bs) (l:List ai)
  (hk:∀(f:aY) keys seen,f∈fr.l->fQ fr seen<fQ fr b->iu fr (fun c=>k c f.aK keys seen) seen)
  (t:∀(s:ai) keys seen,s∈l->(∀x∈b,x∈seen)->iu fr (fun c=>k c s.aK keys seen) seen) (keys seen:List Bs) (m:∀s∈b,s∈seen):iu fr (fun c=>kO c k l keys seen) seen:=by
 induction l generalizing keys seen with
 | nil=>exact iu.some fun _ h=>h
 | cons x r p =>
  have p:=p fun s ks v h=>t s ks v (List.mem_cons_of_mem _ h);have key:iu fr (fun c=>bif (decide (x.aj=(3:Int))) then((k c x.aK keys seen).bind fun u=>some (u.1,u.2)) else(bif (decide (x.aj=(2:Int))) then(Option.bind (jw c x k c.Fq.aL.l keys seen) fun z23=>some (z23.1,z23.2)) else(bif (!(x.cq==([]:Bs))) then(some ((cB keys x.cq),seen)) else(some ((cB keys x.aa),seen))))) seen:=by
   cases decide (x.aj=(3:Int)) with
   | true =>
    obtain⟨r,h2,q⟩:=t x keys seen List.mem_cons_self m;exact⟨r,fun c j=>by show Option.bind _ _=_; rw [show k c x.aK keys seen=_ from h2 c j]; rfl,q⟩
   | false =>
    cases decide (x.aj=(2:Int)) with
    | true =>
     obtain⟨r,h2,q⟩:=Sh x k b fr.l (fun f w=>w) hk keys seen m;exact⟨r,fun c j=>by show Option.bind (jw c x k c.Fq.aL.l keys seen) _=_; rw [j,show jw c x k fr.l keys seen=_ from h2 c j]; rfl,q⟩
    | false =>
     cases !(x.cq==([]:Bs)) with
     | true=>exact iu.some (r:=(cB keys x.cq,seen)) fun _ h=>h
     | false=>exact iu.some (r:=(cB keys x.aa,seen)) fun _ h=>h
  obtain⟨y,h1,h2⟩:=key.bind (g:=fun c z=>kO c k r z.1 z.2) fun z hz=>p z.1 z.2 fun s h=>hz s (m s h);exact⟨y,fun c hc=>by show kO c k (x::r) keys seen=_; rw [kO]; exact h1 c hc,h2⟩
theorem Sj {fr:Sl aY}(b:∀f∈fr.l,Sl.sz ai.sz f.aK<=1048576) (n:Nat):∀(l:Sl ai) (keys seen:List Bs),Sl.sz ai.sz l<=1048576->Sl.sz ai.sz l+fQ fr seen*2097152<n->iu fr (fun c=>iN n c l keys seen) seen:=by
 induction n with
 | zero=>intro l keys seen _ h; omega
 | succ n g =>
  intro l keys seen h1 h2;obtain⟨r,m,p⟩:=Si (fr:=fr) (iN n) seen l.l (fun f ks q j hu=>g _ _ _ (b f j) (by have:=b f j; omega))
   (fun s ks q k t=>g _ _ _ (by have:=Sl.dh (f:=ai.sz) k; have:=s.sub_lt; omega) (by have:=Sl.dh (f:=ai.sz) k; have:=s.sub_lt; have:=E1 (fr:=fr) t; omega)) keys seen fun _ h=>h
  exact⟨r,fun c hc=>by show iN (n+1) c l keys seen=_; rw [iN]; rw [show kO c (iN n) l.l keys seen=_ from m c hc]; rfl,p⟩
def bare (fr:Sl aY):Z2:=⟨⟨Sl.nil⟩,⟨Sl.nil,fr⟩,Sl.nil⟩
def ym (fr:Sl aY) (l:Sl ai):List Bs:=((yo (bare fr) l [] []).getD ([],[])).1
theorem Sk {fr:Sl aY}(b:∀f∈fr.l,Sl.sz ai.sz f.aK<=1048576) (hl:fr.l.length<=1048576) (l:Sl ai) (h:Sl.sz ai.sz l<=1048576) (c:Z2) (hc:c.Fq.aL=fr):∃y,yo c l [] []=some (ym fr l,y):=by
 have hu:fQ fr []<=1048576:=Nat.le_trans (List.length_filter_le _ _) hl;obtain⟨r,h1,_⟩:=Sj b F0 l [] [] h (by rw [ep]; omega);have g:yo c l [] []=some r:=h1 c hc;have j:yo (bare fr) l [] []=some r:=h1 _ rfl;exact⟨r.2,by rw [g]; simp [ym,j]⟩
def M0:Nat:=2097152
def mX (d:an) (fr:Sl aY) (o:bJ):List Z9 :=
 jQ ((((!(bY d.aA.l (gE o.aj)).2)||(!decide ((bY d.aA.l (gE o.aj)).1.aj=(1:Int))))||((decide (o.aj=(3:Int)))&&(!decide ((((bg (ym fr o.aK)).length:Nat):Int)=(1:Int)))))) 30 o.aa++mV M0 d o.aK.l (gE o.aj) o.aa
def uW (d:an) (f:aY):List Z9:=mV M0 d f.aK.l f.b9 f.aa
theorem JX {d:an}(hd:fP d) (l:Sl ai) (b at_:Bs) (h:Sl.sz ai.sz l<=1048576) (h2:at_.length<=1048576):dy d (fun c=>E3 c l b at_) (mV M0 d l.l b at_) :=
 (Se hd F0).1 l b at_ M0 (by rw [ep]; omega) h (by omega) (by unfold M0; omega)
theorem Sm {d:an}(hd:fP d) (l:List aY) (hl:∀f∈l,f.sz<=1048576):dy d (fun c=>mY l c) (l.flatMap (uW d)):=by
 induction l with
 | nil=>exact dy.id
 | cons f r b =>
  have h1:=hl f List.mem_cons_self;have h2:=f.bH; have j:Bs.sz f.aa=f.aa.length+1:=rfl;refine dy.of ((JX hd f.aK f.b9 f.aa (by omega) (by omega)).bind (b fun y g=>hl y (List.mem_cons_of_mem _ g))) (by simp [uW]) fun c hc=>?_;rw [mY]; rfl
theorem Sn {d:an}(hd:fP d){fr:Sl aY}(j:∀f∈fr.l,Sl.sz ai.sz f.aK<=1048576) (k:fr.l.length<=1048576) (l:List bJ) (hl:∀f∈l,f.sz<=1048576) (c:Z2) (hc:c.Fd=d) (hq:c.Fq.aL=fr) (m:c.aC.l.length+(l.flatMap (mX d fr)).length<=4398046511104) :
  ox d l c=some (iV c (l.flatMap (mX d fr))):=by
 induction l generalizing c with
 | nil=>rw [ox]; simp [EX]
 | cons o r p =>
  have h1:=hl o List.mem_cons_self;have h2:=o.bH; have q:Bs.sz o.aa=o.aa.length+1:=rfl;simp only [List.flatMap_cons,List.length_append] at m ⊢;have he:dy d _ (mX d fr o):=(ol d ((((!(bY d.aA.l (gE o.aj)).2)||(!decide ((bY d.aA.l (gE o.aj)).1.aj=(1:Int))))||((decide (o.aj=(3:Int)))&&(!decide ((((bg (ym fr o.aK)).length:Nat):Int)=(1:Int)))))) 30 o.aa).bind (JX hd o.aK (gE o.aj) o.aa (by omega) (by omega))
  obtain⟨y,b⟩:=Sk j k o.aK (by omega) c hq;have g:=he c hc (by omega);dsimp only at g;rw [ox];simp only [on,yd,b,oB];rw [<- Option.bind_assoc,g,oB,p (fun y b=>hl y (List.mem_cons_of_mem _ b)) (iV c (mX d fr o)) hc hq (by simp only [iV,List.length_append]; omega),JQ]
def qC (d:an) (q:aR):List Z9:=q.bw.l.flatMap (mX d q.aL)++q.aL.l.flatMap (uW d)
theorem Sp {d:an}(hd:fP d) (q:aR) (hq:q.sz<=1048576) (g:(qC d q).length<=4398046511104):∃nl,uX d q=some ⟨nl,qC d q⟩:=by
 have hl:=q.lens;unfold qC at *;simp only [List.length_append] at g;have h1:=Sn hd (fr:=q.aL) (fun f b=>by have:=aR.xZ b; have:=f.bH; omega) (by omega) q.bw.l (fun o j=>by have:=aR.xY j; omega) ⟨d,q,Sl.nil⟩ rfl rfl (by simp only [Sl.nil,List.length_nil]; omega);have h2:=Sm hd q.aL.l (fun f b=>by have:=aR.xZ b; omega) (iV ⟨d,q,Sl.nil⟩ (q.bw.l.flatMap (mX d q.aL))) rfl (by simp only [iV,Sl.nil,List.nil_append]; omega)
 unfold uX;rw [h1];simp only [oB,on];rw [show mY q.aL.l (iV ⟨d,q,Sl.nil⟩ (q.bw.l.flatMap (mX d q.aL)))=_ from h2];exact⟨_,by simp [iV,Sl.nil]; rfl⟩
theorem Bi {α:Type}{n:Nat}(c:Bool){a b:List α}(h1:a.length<=n) (h2:b.length<=n):(cond c a b).length<=n:=by cases c<;>assumption
theorem oy (b:Bool) (e:Int) (a:Bs):(jQ b e a).length<=1:=by cases b<;>simp [jQ]
theorem JY (d:an) (b:Sl az) (all:Sl aO) (st:Bool) (a:Bs) (l:List aO) (i:Nat):(mQ d b all st a l i).length<=l.length:=by
 induction l generalizing i with
 | nil=>simp [mQ]
 | cons x r f =>
  have:=f (i+1);rw [mQ];cases (!(eU b.l x.aa).2)||(lR ⟨all.nl,all.l.take i⟩ x.aa).2 with
  | true=>have:=oy true 22 a; simp; omega
  | false=>have:=oy ((!yg d (eU b.l x.aa).1.aM x.dr)||(st&&Be x.dr)) 23 a; simp; omega
theorem Sq (a:Bs) (x:Sl aO) (l:List az):(uU a x l).length<=l.length:=by
 induction l with
 | nil=>simp [uU]
 | cons y r b=>have:=oy (!(lR x y.aa).2) 22 a; rw [uU]; simp; omega
theorem Sr (a:Bs) (x:Sl aO) (l:List az):(qz a x l).length<=l.length:=by
 induction l with
 | nil=>simp [qz]
 | cons y r b=>have:=oy ((ij y.aM&&!y.eC)&&!(lR x y.aa).2) 22 a; rw [qz]; simp; omega
theorem Ss (d:an) (s:ai) (t:ax) (is:Bool) (a:Bs) (x:aP) (i:Nat):(EY d s t is a x i).length<=x.sz:=by
 have h:=x.bH; have h2:=Sl.gR (f:=aO.sz) x.aG aO.pos; have b:=Bs.gf x.aa;have g:=JY d (jR ((!decide (s.aj=2))&&!decide (s.aj=3)) t is x) x.aG ((x.aa==[100,101,102,101,114])||(x.aa==[115,116,114,101,97,109])) a x.aG.l 0;have j:=Sq a x.aG (jR ((!decide (s.aj=2))&&!decide (s.aj=3)) t is x).l;have k:=(JS ((!decide (s.aj=2))&&!decide (s.aj=3)) t is x).1
 have m:=oy true 29 a;unfold EY;refine Bi _ (by omega) ?_;simp only [List.length_append]; omega
theorem JZ (d:an) (s:ai) (t:ax) (is:Bool) (a:Bs) (l:List aP) (i:Nat):(mR d s t is a l i).length<=(l.map aP.sz).sum:=by
 induction l generalizing i with
 | nil=>simp [mR]
 | cons x r b=>have:=b (i+1); have:=Ss d s t is a x i; rw [mR]; simp; omega
theorem Su {d:an}(hd:fP d) (s:ai) (b a:Bs):(Bh d s b a).length<=1048579+s.aG.l.length+(s.bS.l.map aP.sz).sum:=by
 have h1:=oy (sK s.cq) 6 a;have h2:=oy ((!(eF d b s.aa).2)&&(bif !(eF d b s.aa).2 then fC d b else false)) 20 a;have f:=JZ d s (eF d b s.aa).1 (eF d b s.aa).2 a s.bS.l 0;have g:=JY d (jS d s b).aG s.aG false a s.aG.l 0;have j:=Sr a s.aG (jS d s b).aG.l;have k:=(JT hd s b).1;have m:(Bg d s (eF d b s.aa).1 a).length<=1:=oy _ _ _
 have p:(bif (eF d b s.aa).2 then Bg d s (eF d b s.aa).1 a++(mQ d (jS d s b).aG s.aG false a s.aG.l 0++qz a s.aG (jS d s b).aG.l) else []).length<=1048577+s.aG.l.length:=by
  refine Bi _ ?_ (by simp);simp only [List.length_append]; omega
 unfold Bh;simp only [List.length_append]; omega
theorem E4 {α β:Type}{f:α->List β}{g:α->Nat}{l:List α}(h:∀x∈l,(f x).length<=g x*2097152):(l.flatMap f).length<=(l.map g).sum*2097152:=by
 induction l with
 | nil=>simp
 | cons x r b =>
  have h1:=h x List.mem_cons_self; have h2:=b fun y j=>h y (List.mem_cons_of_mem _ j);simp only [List.flatMap_cons,List.length_append,List.map_cons,List.sum_cons]; omega
theorem Sv {d:an}(hd:fP d) (k:List ai->Bs->Bs->List Z9) (b a:Bs) (s:ai) (hk:∀g a2,(k s.aK.l g a2).length<=(s.aK.l.map ai.sz).sum*2097152):(yl k d b a s).length<=s.sz*2097152:=by
 have h:=s.bH;have h1:Sl.sz ai.sz s.aK=1+(s.aK.l.map ai.sz).sum:=rfl;have h2:Sl.sz aP.sz s.bS=1+(s.bS.l.map aP.sz).sum:=rfl;have j:=Sl.gR (f:=aO.sz) s.aG aO.pos;have m:=JZ d s ⟨[],Sl.nil⟩ false a s.bS.l 0;have p:=Su hd s b (gW s a);have q:=hk (bif !(s.b9==[]) then s.b9 else b) a;have r:=hk (eF d b s.aa).1.aa (gW s a);unfold yl
 refine Bi _ (by omega) (Bi _ ?_ ?_)<;>simp only [List.length_append]<;>omega
theorem J1 {d:an}(hd:fP d) (n:Nat) (l:List ai) (b a:Bs):(mV n d l b a).length<=(l.map ai.sz).sum*2097152:=by
 induction n generalizing l b a with
 | zero=>simp [mV]
 | succ n f=>rw [mV]; exact E4 fun s _=>Sv hd _ b a s fun g a2=>f _ _ _
theorem Sw {d:an}(hd:fP d) (fr:Sl aY) (o:bJ):(mX d fr o).length<=o.sz*2097152:=by
 have h:=o.bH;have h1:Sl.sz ai.sz o.aK=1+(o.aK.l.map ai.sz).sum:=rfl;have h2:=J1 hd M0 o.aK.l (gE o.aj) o.aa;have b:=oy ((((!(bY d.aA.l (gE o.aj)).2)||(!decide ((bY d.aA.l (gE o.aj)).1.aj=(1:Int))))||((decide (o.aj=(3:Int)))&&(!decide ((((bg (ym fr o.aK)).length:Nat):Int)=(1:Int)))))) 30 o.aa;unfold mX;simp only [List.length_append]; omega
theorem Sx {d:an}(hd:fP d) (f:aY):(uW d f).length<=f.sz*2097152:=by
 have h:=f.bH;have h1:Sl.sz ai.sz f.aK=1+(f.aK.l.map ai.sz).sum:=rfl;unfold uW;exact Nat.le_trans (J1 hd M0 f.aK.l f.b9 f.aa) (by omega)
theorem J2 {d:an}(hd:fP d) (q:aR) (hq:q.sz<=1048576):(q.bw.l.flatMap (mX d q.aL)).length+(q.aL.l.flatMap (uW d)).length<=2199023255552:=by
 have h:=q.bH;have h1:Sl.sz bJ.sz q.bw=1+(q.bw.l.map bJ.sz).sum:=rfl;have h2:Sl.sz aY.sz q.aL=1+(q.aL.l.map aY.sz).sum:=rfl;have b:=E4 (l:=q.bw.l) (g:=bJ.sz) fun o _=>Sw hd q.aL o;have f:=E4 (l:=q.aL.l) (g:=aY.sz) fun o _=>Sx hd o;omega
theorem Sy {d:an}(hd:fP d) (q:aR) (hq:q.sz<=1048576):∃nl,uX d q=some ⟨nl,qC d q⟩ :=
 Sp hd q hq (by have:=J2 hd q hq; unfold qC; simp only [List.length_append]; omega)
def Tk {C D:Type}(fx:C->D) (ln:C->Nat) (o:Option C) (c:C) (k:Nat):Prop:=∃c',o=some c'/\fx c'=fx c/\ln c'<=ln c+k
section
variable {C D:Type}{fx:C->D}{ln:C->Nat}{o:Option C}{c:C}{k m n:Nat}
theorem Tk.pure (c:C) (k:Nat):Tk fx ln (some c) c k:=⟨c,rfl,rfl,Nat.le_add_right _ _⟩
theorem Tk.bind {f:C->Option C}(h:Tk fx ln o c k) (hn:k+m<=n) (b:∀c',fx c'=fx c->ln c'<=ln c+k->Tk fx ln (f c') c' m):Tk fx ln (o.bind f) c n:=by
 obtain⟨c1,g,f1,j⟩:=h;obtain⟨c2,l,f2,p⟩:=b c1 f1 j;exact⟨c2,by rw [g]; exact l,f2.trans f1,by omega⟩
theorem Tk.map (h:Tk fx ln o c k):Tk fx ln (o.bind fun x=>some x) c k:=by
 obtain⟨c1,b,h1⟩:=h; exact⟨c1,by rw [b]; rfl,h1⟩
theorem Tk.mono (h:Tk fx ln o c k) (hn:k<=n):Tk fx ln o c n:=by
 obtain⟨c1,b,f1,f⟩:=h; exact⟨c1,b,f1,by omega⟩
theorem Tk.cond {b:Bool}{x y:Option C}(h1:b=true->Tk fx ln x c k) (h2:b=false->Tk fx ln y c k):Tk fx ln (bif b then x else y) c k:=by
 cases b
 ·exact h2 rfl
 ·exact h1 rfl
theorem Tk.Sz {α:Type}{p:Option α}{f:α->Option C}(b:∃x,p=some x) (g:∀x,p=some x->Tk fx ln (f x) c k):Tk fx ln (p.bind f) c k:=by
 obtain⟨x,e⟩:=b; rw [e]; exact g x e
theorem Tk.guard {α:Type}{b:Bool}{p:Option α}{d:α}{f:α->Option C}(j:b=true->∃x,p=some x) (g:∀x,Tk fx ln (f x) c k):Tk fx ln (a_ b p d f) c k:=by
 cases b
 ·exact g d
 ·obtain⟨x,e⟩:=j rfl; rw [e]; exact g x
end
end Go.Proofs
namespace Go.Proofs
open Go Go.Ab
theorem qD {α:Type}{l r:List α}{i:Nat}{x:α}(h:l.drop i=x::r):l.drop (i+1)=r/\l[i]?=some x:=by
 refine⟨?_,by have:=congrArg (fun t=>t[0]?) h; simpa using this⟩;have:=congrArg (List.drop 1) h
 simpa [List.drop_drop] using this
theorem J3 {f:Bs->Option Bool}:∀{l:List Bs},(∀s∈l,∃b,f s=some b)->∃r,uu f l=some r
 | [],_=>⟨_,rfl⟩
 | s::l,h=>by
  obtain⟨b,e⟩:=h s (.head _);obtain⟨r,g⟩:=J3 (l:=l) fun x hx=>h x (.tail _ hx);exact⟨_,by rw [uu,e,oB,g]; rfl⟩
theorem SA (d:an) (a:Bs) (x:ay×Bool) (s:Bs):∃b,yp d a x s=some b:=by
 unfold yp;rw [J4,oB];generalize (!((!(cL d s).2)||(!decide ((cL d s).1.aj=(1:Int))))&&(decide (x.1.aj=(2:Int))))=g;have fin:∀b:Bool,∃r,(bif (((!(cL d s).2)||(!decide ((cL d s).1.aj=(1:Int))))||((decide (x.1.aj=(2:Int)))&&(!b))) then(some false) else(some true))=some r:=fun b=>by
  cases (((!(cL d s).2)||(!decide ((cL d s).1.aj=(1:Int))))||((decide (x.1.aj=(2:Int)))&&(!b)))
  ·exact⟨_,rfl⟩
  ·exact⟨_,rfl⟩
 cases g
 ·exact fin false
 ·simp only [a_,if_true];rw [J5,oB];exact fin _
theorem E5 (d:an) (h:d.aA.l.length<=1048576):∀(n:Nat) (o:Sl Bs) (s:Nat) (l:List Bs),s<=d.aA.l.length->d.aA.l.length<s+n->o.l.length+(d.aA.l.length-s)<=2097152->∃r,qE d n o s l=some r/\r.l.length<=2097152
 | 0,_,_,_,h1,h2,_=>by omega
 | n+1,o,s,l,h1,h2,f=>by
  rw [qE];by_cases b:s<d.aA.l.length
  ·rw [show decide (((s:Nat):Int)<((d.aA.l.length:Nat):Int))=true from dT (by omega),cond_true,List.getElem?_eq_getElem b,oB];unfold yq;cases l.contains d.aA.l[s].aa
   ·rw [cond_false]; exact E5 d h n o (s+1) l (by omega) (by omega) (by omega)
   ·rw [cond_true,fU (by decide) (by simp; omega),oB];exact E5 d h n _ (s+1) _ (by omega) (by omega) (by simp; omega)
  ·rw [show decide (((s:Nat):Int)<((d.aA.l.length:Nat):Int))=false from dF (by omega),cond_false];exact⟨o,rfl,by omega⟩
theorem Bj (d:an) (h:d.aA.l.length<=1048576) (a:Bs) (x:ay×Bool) (l:List Bs):∃r,qF d a x l=some r/\r.l.length<=2097152:=by
 unfold qF;obtain⟨r,e⟩:=J3 (l:=l) fun s _=>SA d a x s;rw [e];unfold Bk;exact E5 d h _ _ 0 _ (Nat.zero_le _) (by omega) (by simp only [Sl.nil,List.length_nil]; omega)
theorem E6 (d:an) (h:d.aA.l.length<=1048576) (a:Bs) (x:ay×Bool):∀(n s:Nat) (l:List Bs),s<=d.aA.l.length->d.aA.l.length<s+n->∃r,qG d a x n s l=some r/\r.l.length<=2097152
 | 0,_,_,h1,h2=>by omega
 | n+1,s,l,h1,h2=>by
  rw [qG];by_cases b:s<d.aA.l.length
  ·rw [show decide (((s:Nat):Int)<((d.aA.l.length:Nat):Int))=true from dT (by omega),cond_true,List.getElem?_eq_getElem b,oB,J5,oB];unfold yt;cases Bl d.aA.l[s] a
   ·exact E6 d h a x n (s+1) _ (by omega) (by omega)
   ·exact E6 d h a x n (s+1) _ (by omega) (by omega)
  ·rw [show decide (((s:Nat):Int)<((d.aA.l.length:Nat):Int))=false from dF (by omega),cond_false];exact Bj d h a x l
theorem J6 (d:an) (h:d.aA.l.length<=1048576) (a:Bs) (x:ay×Bool):∀(n s:Nat) (l:List Bs),s<=x.1.bV.l.length->x.1.bV.l.length<s+n->∃r,uY d a x n s l=some r/\r.l.length<=2097152
 | 0,_,_,h1,h2=>by omega
 | n+1,s,l,h1,h2=>by
  rw [uY];by_cases b:s<x.1.bV.l.length
  ·rw [show decide (((s:Nat):Int)<((x.1.bV.l.length:Nat):Int))=true from dT (by omega),cond_true,List.getElem?_eq_getElem b,oB];exact J6 d h a x n (s+1) _ (by omega) (by omega)
  ·rw [show decide (((s:Nat):Int)<((x.1.bV.l.length:Nat):Int))=false from dF (by omega),cond_false];exact Bj d h a x l
theorem J7 {d:an}(h:d.aA.l.length<=1048576) (a:Bs):∃r,Bm d a=some r/\r.l.length<=2097152:=by
 unfold Bm Bn;rw [J4,oB];cases decide ((cL d a).1.aj=(1:Int))
 ·rw [cond_false];cases decide ((cL d a).1.aj=(2:Int))
  ·rw [cond_false];cases decide ((cL d a).1.aj=(3:Int))
   ·exact Bj d h a _ _
   ·exact J6 d h a _ _ 0 _ (Nat.zero_le _) (by omega)
  ·exact E6 d h a _ _ 0 _ (Nat.zero_le _) (by omega)
 ·exact Bj d h a _ _
theorem E7 {t:ax}(h:fz t.av.l=true):(uR t).av.l.length<t.av.l.length:=by
 have:=ET h;simp only [uR,cQ,h,cond_true,List.length_drop]; omega
theorem J8 (c:Sl Int):∀(l:List Int) (i:Nat),l.length+i<=c.l.length->∃o,lS c l i=some o
 | [],_,_=>⟨_,rfl⟩
 | x::r,i,h=>by
  simp only [List.length_cons] at h;rw [lS];simp only [on];rw [List.getElem?_eq_getElem (show i<c.l.length by omega),oB];cases (!decide (x=c.l[i]'(by omega)))
  ·exact J8 c r (i+1) (by omega)
  ·exact⟨_,rfl⟩
theorem SB (a b:ax):∃v,sM a b=some v:=by
 have h2:∃v,oz a.av b.av=some v:=by
  unfold oz;by_cases h:a.av.l.length=b.av.l.length
  ·rw [show (!decide (((a.av.l.length:Nat):Int)=((b.av.l.length:Nat):Int)))=false by rw [dT (show ((a.av.l.length:Nat):Int)=((b.av.l.length:Nat):Int) by omega)]; rfl,cond_false];obtain⟨o,f⟩:=J8 b.av a.av.l 0 (by omega);rw [f];cases o<;>exact⟨_,rfl⟩
  ·rw [show (!decide (((a.av.l.length:Nat):Int)=((b.av.l.length:Nat):Int)))=true by rw [dF (show ¬((a.av.l.length:Nat):Int)=((b.av.l.length:Nat):Int) by omega)]; rfl];exact⟨_,rfl⟩
 obtain⟨v,hv⟩:=h2;unfold sM;rw [hv];cases (a.aa==b.aa)<;>exact⟨_,rfl⟩
def Ps {A C D:Type}(fx:C->D) (ln:C->Nat) (pr:A->C) (o:Option A) (c:C) (P:Prop):Prop:=∀a,o=some a->fx (pr a)=fx c/\ln c<=ln (pr a)/\(ln (pr a)=ln c->P)
section
variable {A B C D:Type}{fx:C->D}{ln:C->Nat}{pr:A->C}{pb:B->C}{o:Option A}{c:C}{P Q R:Prop}
theorem Ps.pure {a:A}(h:pr a=c) (b:P):Ps fx ln pr (some a) c P:=fun x e=>by cases e; rw [h]; exact⟨rfl,Nat.le_refl _,fun _=>b⟩
theorem Ps.bind {f:A->Option B}(h:Ps fx ln pr o c P) (hr:P->Q->R) (j:∀a,o=some a->fx (pr a)=fx c->Ps fx ln pb (f a) (pr a) Q):Ps fx ln pb (o.bind f) c R:=fun b e=>by
 cases g:o with
 | none=>rw [g] at e; cases e
 | some a =>
  rw [g] at e;obtain⟨h1,h2,k⟩:=h a g;obtain⟨g1,g2,g3⟩:=j a g h1 b e;exact⟨g1.trans h1,Nat.le_trans h2 g2,fun x=>hr (k (by omega)) (g3 (by omega))⟩
theorem Ps.any {X:Type}{p:Option X}{f:X->Option A}(g:∀x,p=some x->Ps fx ln pr (f x) c P):Ps fx ln pr (p.bind f) c P:=fun a e=>by
 cases b:p with
 | none=>rw [b] at e; cases e
 | some x=>rw [b] at e; exact g x b a e
theorem Ps.guard {X:Type}{b:Bool}{p:Option X}{d:X}{f:X->Option A}(g:∀x,Ps fx ln pr (f x) c P):Ps fx ln pr (a_ b p d f) c P:=by
 cases b
 ·exact g d
 ·exact Ps.any fun x _=>g x
theorem Ps.cond {b:Bool}{x y:Option A}(h1:b=true->Ps fx ln pr x c P) (h2:b=false->Ps fx ln pr y c P):Ps fx ln pr (bif b then x else y) c P:=by
 cases b
 ·exact h2 rfl
 ·exact h1 rfl
end
theorem SC {α:Type}{z:Nat}{s r x:Sl α}(h:bq z s r=some x):x.l.length=s.l.length+r.l.length:=by rw [(xq h).1]; simp
end Go.Proofs
namespace Go.Proofs
open Go Go.Ab
theorem SD {d:an}(h:d.aA.l.length<=1048576) (a b:Bs):∃v,yu d a b=some v:=by
 unfold yu;obtain⟨r,e,-⟩:=J7 h b;obtain⟨g,f,-⟩:=J7 h a;rw [e,oB,f]; exact⟨_,rfl⟩
abbrev GK (o:Option Z3) (c:Z3) (k:Nat):Prop:=Tk Z3.Fd (fun c=>c.aC.l.length) o c k
theorem yw {o:Option Z3}{c:Z3}{k:Nat}(h:GK o c k):∃c',o=some c'/\c'.Fd=c.Fd/\c'.aC.l.length<=c.aC.l.length+k:=h
theorem sN {c:Z3}(h:c.aC.l.length<=1000000000) (b:Bool) (e:Int) (s:Bs):GK (iW c b e s) c 1:=by
 unfold iW;refine Tk.cond (fun _=>?_) fun _=>Tk.pure c 1;rw [fU (by decide) (by simp; omega),oB];exact⟨_,rfl,rfl,by simp⟩
theorem J9 {c:Z3}(h:c.Fd.aA.l.length<=1048576) (a b:Bs):∃v,uZ c a b=some v:=by
 unfold uZ;obtain⟨v,e⟩:=SD h a b;rw [e];simp only [on];cases fC c.Fd a<;>exact⟨_,rfl⟩
theorem u0 (x:ai):x.cq.length+x.aa.length+(x.aK.l.map ai.sz).sum+4<=x.sz:=by
 have h:=x.bH;have h1:Bs.sz x.cq=x.cq.length+1:=rfl;have h2:Bs.sz x.aa=x.aa.length+1:=rfl;have b:Sl.sz ai.sz x.aK=1+(x.aK.l.map ai.sz).sum:=rfl;omega
theorem Bo:∀(n:Nat) (l:Sl ai) (f at_:Bs) (c:Z3),(l.l.map ai.sz).sum<n->at_.length+2*(l.l.map ai.sz).sum<=100000000->c.Fd.aA.l.length<=1048576->c.aC.l.length+2*(l.l.map ai.sz).sum<=100000000->GK (iE n c l f at_) c (2*(l.l.map ai.sz).sum)
 | 0,_,_,_,_,h,_,_,_=>by omega
 | n+1,l,f,at_,c,hn,s,hd,u=>by
  have loop:∀(t:List ai) (c:Z3),(t.map ai.sz).sum<=n->at_.length+2*(t.map ai.sz).sum<=100000000->c.Fd.aA.l.length<=1048576->c.aC.l.length+2*(t.map ai.sz).sum<=100000000->GK (lT f at_ (iE n) t c) c (2*(t.map ai.sz).sum):=by
   intro t;induction t with
   | nil=>intro c _ _ _ _; exact Tk.pure c _
   | cons x r y =>
    intro c ht z g B;simp only [List.map_cons,List.sum_cons] at ht z B ⊢;have hx:=u0 x;rw [lT];simp only [on];refine Tk.bind (k:=2*x.sz) (m:=2*(r.map ai.sz).sum) ?_ (by omega) fun c' C H=>y c' (by omega) (by omega) (by rw [C]; exact g) (by omega);refine Tk.cond (fun _=>?_) fun _=>Tk.cond (fun _=>?_) fun _=>?_
    ·refine Tk.bind (k:=1) (m:=1) (sN (by omega) _ _ _) (by omega) fun c1 j h1=>?_;refine Tk.guard (fun _=>J9 (by rw [j]; exact g) _ _) fun v=>?_;exact(sN (by omega) _ _ _).map
    ·have sub:∀(b:Bs) (c1:Z3),c1.Fd=c.Fd->c1.aC.l.length<=c.aC.l.length+2->GK ((iE n c1 x.aK b at_).bind fun p=>some p) c1 (2*(x.aK.l.map ai.sz).sum):=fun b c1 j h1 =>
      (Bo n x.aK b at_ c1 (by omega) (by omega) (by rw [j]; exact g) (by omega)).map
     cases (!(x.b9==([]:Bs)))
     ·exact(sub f c rfl (by omega)).mono (by omega)
     ·rw [cond_true];obtain⟨c1,j,f1,h1⟩:=yw (sN (c:=c) (by omega) (!fC c.Fd x.b9) 24 at_);rw [j,oB];obtain⟨v,hv⟩:=J9 (c:=c1) (by rw [f1]; exact g) f x.b9;have:∀w:Bool,GK ((((iW c1 (fC c.Fd x.b9&&w) (25:Int) at_).bind fun E=>some (x.b9,E)).bind fun q=>(iE n q.2 x.aK q.1 at_).bind fun p=>some p)) c (2*x.sz):=by
       intro w;obtain⟨c2,F,f2,h2⟩:=yw (sN (c:=c1) (by omega) (fC c.Fd x.b9&&w) 25 at_);rw [F];obtain⟨c3,G,f3,I⟩:=yw (sub x.b9 c2 (f2.trans f1) (by omega));exact⟨c3,G,f3.trans (f2.trans f1),by show c3.aC.l.length<=c.aC.l.length+2*x.sz; omega⟩
      rw [hv];cases hc:fC c.Fd x.b9
      ·have:=this false; rw [hc] at this; exact this
      ·have:=this v; rw [hc] at this; exact this
    ·have hk:(bif (x.cq==([]:Bs)) then x.aa else x.cq).length<=x.cq.length+x.aa.length:=by
      cases (x.cq==([]:Bs))<;>simp
     generalize (bif (x.cq==([]:Bs)) then x.aa else x.cq)=key at hk;rw [eY (by simp; omega),oB,eY (by simp; omega),oB];exact((Bo n x.aK _ _ c (by omega) (by simp; omega) g (by omega)).map).mono (by omega)
  rw [iE];exact(loop l.l c (by omega) s hd u).map
def fA (l:List aY) (s:Bs):aY×Bool:=match l.find? (fun t=>t.aa==s) with|some t=>(t,true)|none=>(aY.zero,false)
theorem SE (l:List aY) (s:Bs):qH s l=match l.find? (fun t=>t.aa==s) with|some t=>Sum.inr (t,true)|none=>Sum.inl ():=by
 induction l with
 | nil=>rfl
 | cons a r b =>
  rw [qH,List.find?_cons];simp only [on,b];cases a.aa==s<;>rfl
theorem u4 (q:aR) (s:Bs):jV q s=fA q.aL.l s:=by
 unfold jV fA;simp only [on];rw [SE];cases q.aL.l.find? (fun t=>t.aa==s)<;>rfl
theorem sO {l:List aY}{s:Bs}(h:(fA l s).2=true):(fA l s).1.aa=s/\(fA l s).1∈l:=by
 unfold fA at *;cases e:l.find? (fun t=>t.aa==s) with
 | none=>rw [e] at h; cases h
 | some t=>exact⟨by simpa using List.find?_some e,List.mem_of_find?_eq_some e⟩
theorem SF (s:Bs) (l:List Bs):∀n:Nat,(l.contains s=false->oA s l n=Sum.inl ())/\(l.contains s=true->∃m:Nat,oA s l n=Sum.inr (m:Int)):=by
 induction l with
 | nil=>intro n; exact⟨fun _=>rfl,fun h=>by simp at h⟩
 | cons a r b =>
  intro n;rw [oA];simp only [on,List.contains_cons];cases s==a
  ·simp only [Bool.false_or,cond_false]; exact b (n+1)
  ·simp only [Bool.true_or,cond_true]; exact⟨fun h=>by simp at h,fun _=>⟨n,rfl⟩⟩
theorem E8 (a:Sl Bs) (s:Bs):jW a s=a.l.contains s:=by
 unfold jW u6;simp only [on];have h:=SF s a.l 0;cases hc:a.l.contains s
 ·rw [h.1 hc]; rfl
 ·obtain⟨m,e⟩:=h.2 hc;rw [e]; exact dT (by simp)
theorem E9 (fr:Sl aY) (seen:List Bs):fQ fr seen<=fr.l.length:=List.length_filter_le _ _
def yx (q:aR) (o:Option (Sl Bs×Bool)) (s:Sl Bs):Prop:=∃f b,o=some (f,b)/\(∀x∈s.l,x∈f.l)/\fQ q.aL f.l+f.l.length<=fQ q.aL s.l+s.l.length
theorem SG {a b T x y n:Nat}(h:a<=b) (hx:x<=y) (h2:b*(T+1)+y<=n):a*(T+1)+x<=n:=by
 have:a*(T+1)<=b*(T+1):=Nat.mul_le_mul_right _ h;omega
theorem J_ {a b T x y n:Nat}(h:a<b) (hx:x<=T) (h2:b*(T+1)+y<=n):a*(T+1)+x<n:=by
 have:(a+1)*(T+1)<=b*(T+1):=Nat.mul_le_mul_right _ h;rw [Nat.succ_mul] at this;omega
theorem J' {q:aR}{T n:Nat}(m:∀f∈q.aL.l,(f.aK.l.map ai.sz).sum<=T)
  (p:∀(l:Sl ai) (s:Sl Bs),fQ q.aL s.l*(T+1)+(l.l.map ai.sz).sum<n->(l.l.map ai.sz).sum<=T->fQ q.aL s.l+s.l.length<=1048576->yx q (iX n q l s) s) :
  ∀(l:List ai) (s:Sl Bs) (b:Bool),fQ q.aL s.l*(T+1)+(l.map ai.sz).sum<=n->(l.map ai.sz).sum<=T->fQ q.aL s.l+s.l.length<=1048576->yx q (mZ q (iX n) l s b) s
 | [],s,b,_,_,_=>⟨s,b,rfl,fun _ h=>h,Nat.le_refl _⟩
 | h::r,s,b,hn,hl,w=>by
  simp only [List.map_cons,List.sum_cons] at hn hl;have G:(h.aK.l.map ai.sz).sum+4<=h.sz:=by have:=u0 h; omega
  have rest:∀(o:Option (Sl Bs×Bool)),yx q o s->yx q (Option.bind o fun t=>mZ q (iX n) r t.1 t.2) s:=fun o y=>by
   obtain⟨j,k,e,g,hu⟩:=y;have hle:=E1 (fr:=q.aL) g;obtain⟨z,B,C,E,H⟩:=J' m p r j k (SG hle (by omega) hn) (by omega) (by omega);exact⟨z,B,by rw [e,oB]; exact C,fun x hx=>E x (g x hx),by omega⟩
  rw [mZ];simp only [on,u4,E8];refine rest _ ?_;cases decide (h.aj=2)
  ·rw [cond_false];obtain⟨j,k,e,g,hu⟩:=p h.aK s (by omega) (by omega) w;exact⟨j,b&&k,by rw [e]; rfl,g,hu⟩
  ·rw [cond_true];cases F:(fA q.aL.l h.aa).2
   ·exact⟨s,b&&false,rfl,fun _ h=>h,Nat.le_refl _⟩
   ·obtain⟨u,hm⟩:=sO F;simp only [Bool.not_true,Bool.not_false,cond_true,Bool.false_or];cases hc:s.l.contains h.aa
    ·rw [cond_false];have v:∀x∈s.l,x∈s.l++[h.aa]:=fun x hx=>by simp [hx]
     have aJ:=E2 (fr:=q.aL) v hm (by rw [u]; simpa using hc) (by rw [u]; simp);rw [fU (by decide) (by simp only [List.length_singleton]; omega),oB];obtain⟨j,k,e,g,hu⟩:=p (fA q.aL.l h.aa).1.aK ⟨s.nl&&List.isEmpty [h.aa],s.l++[h.aa]⟩ (J_ aJ (m _ hm) hn) (m _ hm) (by simp only [List.length_append,List.length_singleton]; omega);refine⟨j,(b&&true)&&k,by rw [e]; rfl,fun x hx=>g x (v x hx), ?_⟩
     simp only [List.length_append,List.length_singleton] at hu;omega
    ·exact⟨s,b&&true,rfl,fun _ h=>h,Nat.le_refl _⟩
theorem E_ {q:aR}{T:Nat}(b:∀f∈q.aL.l,(f.aK.l.map ai.sz).sum<=T):∀(n:Nat) (l:Sl ai) (s:Sl Bs),fQ q.aL s.l*(T+1)+(l.l.map ai.sz).sum<n->(l.l.map ai.sz).sum<=T->fQ q.aL s.l+s.l.length<=1048576->yx q (iX n q l s) s
 | 0,_,_,h,_,_=>by omega
 | n+1,l,s,hn,hl,g=>by
  obtain⟨j,k,e,m,hu⟩:=J' b (E_ b n) l.l s true (by omega) hl g;exact⟨j,k,by rw [iX,e]; rfl,m,hu⟩
def u7 (q:aR):Prop:=q.aL.l.length<=1048576/\∀f∈q.aL.l,(f.aK.l.map ai.sz).sum<=1048576
theorem Ka {q:aR}(hq:u7 q) (l:Sl ai) (hl:(l.l.map ai.sz).sum<=1048576):∃f b,sP q l Sl.nil=some (f,b)/\f.l.length<=1048576:=by
 have hu:=E9 q.aL [];have h1:=hq.1;have hm:fQ q.aL []*(1048576+1)<=1048576*(1048576+1):=Nat.mul_le_mul_right _ (by omega);obtain⟨f,b,e,_,h2⟩:=E_ hq.2 F0 l Sl.nil (by rw [ep]; simp only [Sl.nil]; omega) hl (by simp only [Sl.nil,List.length_nil]; omega);refine⟨f,b,e, ?_⟩;simp only [Sl.nil,List.length_nil] at h2;omega
theorem Kd {q:aR}(hq:u7 q) (f:aY) (g:(f.aK.l.map ai.sz).sum<=1048576):∃b,jX q f=some b:=by
 obtain⟨s,b,e,_⟩:=Ka hq f.aK g;unfold jX;rw [e]; exact⟨_,rfl⟩
theorem Fa (o:bJ):(o.aK.l.map ai.sz).sum+o.aa.length<=o.sz:=by
 have h:=o.bH;have h1:Bs.sz o.aa=o.aa.length+1:=rfl;have b:Sl.sz ai.sz o.aK=1+(o.aK.l.map ai.sz).sum:=rfl;omega
theorem u9 (o:aY):(o.aK.l.map ai.sz).sum+o.aa.length<=o.sz:=by
 have h:=o.bH;have h1:Bs.sz o.aa=o.aa.length+1:=rfl;have b:Sl.sz ai.sz o.aK=1+(o.aK.l.map ai.sz).sum:=rfl;omega
theorem Ke {q:aR}(hq:u7 q):∀(l:List bJ) (c:Z3) (m:List Bs),(l.map bJ.sz).sum<=1048576->c.Fd.aA.l.length<=1048576->c.aC.l.length+2*(l.map bJ.sz).sum<=10000000->∃c' m',lU q l c m=some (c',m')/\c'.Fd=c.Fd/\c'.aC.l.length<=c.aC.l.length+2*(l.map bJ.sz).sum
 | [],c,m,_,_,_=>⟨c,m,rfl,rfl,by omega⟩
 | o::r,c,m,hl,hd,f=>by
  simp only [List.map_cons,List.sum_cons] at hl f ⊢;have p:=Fa o;rw [lU];simp only [on];obtain⟨c1,g,f1,h1⟩:=yw (Bo F0 o.aK (gE o.aj) o.aa c (by rw [ep]; omega) (by omega) hd (by omega));rw [show Fb c o.aK (gE o.aj) o.aa=some c1 from g,oB];obtain⟨s,b,j,_⟩:=Ka hq o.aK (by omega);rw [j,oB];obtain⟨c2,m2,k,f3,t⟩:=Ke hq r c1 (sQ s.l m) (by omega) (by rw [f1]; exact hd) (by omega)
  exact⟨c2,m2,k,f3.trans f1,by omega⟩
theorem Kf {d:an}{q:aR}(hq:u7 q) (M:List Bs):∀(l:List aY) (c:Z3),(l.map aY.sz).sum<=1048576->c.Fd.aA.l.length<=1048576->c.aC.l.length+3*l.length+2*(l.map aY.sz).sum<=20000000->GK (lV d q M l c) c (3*l.length+2*(l.map aY.sz).sum)
 | [],c,_,_,_=>Tk.pure c _
 | f::r,c,hl,hd,b=>by
  simp only [List.map_cons,List.sum_cons,List.length_cons] at hl b ⊢;have u:=u9 f;rw [lV];simp only [on];refine Tk.bind (k:=1) (m:=2+3*r.length+2*(f.sz+(r.map aY.sz).sum)) (sN (by omega) _ _ _) (by omega) fun c1 g h1=>?_;refine Tk.Sz (Kd hq f (by omega)) fun v _=>?_;refine Tk.bind (k:=1) (m:=1+3*r.length+2*(f.sz+(r.map aY.sz).sum)) (sN (by omega) _ _ _) (by omega) fun c2 j h2=>?_
  refine Tk.bind (k:=1) (m:=3*r.length+2*(f.sz+(r.map aY.sz).sum)) (sN (by omega) _ _ _) (by omega) fun c3 p w=>?_;have e:c3.Fd=c.Fd:=p.trans (j.trans g);refine Tk.bind (k:=2*f.sz) (m:=3*r.length+2*(r.map aY.sz).sum) ((Bo F0 f.aK f.b9 f.aa c3 (by rw [ep]; omega) (by omega) (by rw [e]; exact hd) (by omega)).mono (by omega)) (by omega) fun s t y=>?_;exact Kf hq M r s (by omega) (by rw [t.trans e]; exact hd) (by omega)
theorem u_ {q:aR}(hq:q.sz<=1048576):u7 q:=by
 have h:=q.bH;have h1:=Sl.gR (f:=aY.sz) q.aL aY.pos;refine⟨by omega,fun f b=>?_⟩;have h2:=Sl.dh (f:=aY.sz) b;have g:=u9 f;omega
theorem SJ {d:an}{q:aR}(hd:d.aA.l.length<=1048576) (hq:q.sz<=1048576):∃l,sS d q=some l:=by
 have h:=q.bH;have h1:Sl.sz bJ.sz q.bw=1+(q.bw.l.map bJ.sz).sum:=rfl;have h2:Sl.sz aY.sz q.aL=1+(q.aL.l.map aY.sz).sum:=rfl;have j:=Sl.gR (f:=aY.sz) q.aL aY.pos;unfold sS;obtain⟨c,m,e,f,g⟩:=Ke (u_ hq) q.bw.l (Z3.mk d q Sl.nil) [] (by omega) hd (by show 0+_<=_; omega);have g:c.aC.l.length<=0+2*(q.bw.l.map bJ.sz).sum:=g;have f:c.Fd=d:=f;rw [e,oB]
 simp only [on];obtain⟨c2,b,_⟩:=yw (Kf (d:=d) (u_ hq) m q.aL.l c (by omega) (by rw [f]; exact hd) (by omega));rw [b];exact⟨_,rfl⟩
def Bp (t:ax):Bool:=decide (((t.av.l.length:Nat):Int)=1)&&decide (t.av.l.headD 0=1)
def gd (d:an) (own:Bs) (x:az):Bool:=Bp x.aM&&(x.aM.aa==own||((bY d.aA.l x.aM.aa).2&&decide ((bY d.aA.l x.aM.aa).1.aj=5)))
def oC (d:an) (n:Bs):List az:=(bY d.aA.l n).1.bG.l
inductive qI (d:an) (own:Bs) (t:List az):Bs->Prop where
 | here {x:az}(hx:x∈t) (hg:gd d own x=true):qI d own t x.aM.aa
 | step {n:Bs}{x:az}(h:qI d own t n) (hx:x∈oC d n) (hg:gd d own x=true):qI d own t x.aM.aa
theorem Bq {l:List ay}{s:Bs}(h:(bY l s).2=true):(bY l s).1.aa=s:=by
 unfold bY at h ⊢;cases e:l.find? (fun t=>t.aa==s) with
 | none=>rw [e] at h; cases h
 | some t=>have:=List.find?_some e; simpa using this
open Classical in
noncomputable def oE (d:an) (t:ay):Bool:=decide (qI d t.aa t.bG.l t.aa)
end Go.Proofs
namespace Go.Proofs
open Go Go.Ab
def cw (b:Bool) (e:Int) (at_:Bs):List Z9:=bif b then [Z9.mk e at_] else []
def gj (s:Bs):Bool:=fB s&&!((uB s).getD true)
def m_ (d:an) (n at_:Bs) (k:Int):List Z9 :=
 bif !(bY d.aA.l n).2&&!fu n then cw true 8 at_ else bif decide (k=(0:Int)) then cw (!fu n&&decide ((bY d.aA.l n).1.aj=(5:Int))) 10 at_ else cw (!lF d n) 10 at_
def jY (d:an) (a b:Bs):List Bs->List az->List Z9
 | _,[]=>[]
 | s,x::r=>(cw (!gj x.aa) 6 (a++x.aa++b)++cw (s.contains x.aa) 7 (a++x.aa++b))++(m_ d x.aM.aa (a++x.aa++b) 1++jY d a b (s++[x.aa]) r)
def qJ (d:an) (b:Bs):List Bs->List aT->List Z9
 | _,[]=>[]
 | s,x::r=>(cw (!gj x.aa) 6 (b++[46]++x.aa)++cw (s.contains x.aa) 7 (b++[46]++x.aa))++(m_ d x.aM.aa (b++[46]++x.aa) 0++(jY d (b++[46]++x.aa++[40]) [41] [] x.aG.l++qJ d b (s++[x.aa]) r))
def yy (s:Bs):Bool:=(((s==([116,114,117,101]:Bs)))||((s==([102,97,108,115,101]:Bs))))||((s==([110,117,108,108]:Bs)))
def oF (b:Bs):List Bs->List bC->List Z9
 | _,[]=>[]
 | s,x::r=>(cw (yy x.aa||!gj x.aa) 6 (b++[46]++x.aa)++cw (s.contains x.aa) 7 (b++[46]++x.aa))++oF b (s++[x.aa]) r
def yz (t:ay):Bool:=bif (bif (decide (t.aj=(1:Int))) then((decide (t.aj=(1:Int)))) else((decide (t.aj=(2:Int))))) then((decide (((t.bA.l.length:Nat):Int)=(0:Int)))) else(bif (bif (decide (t.aj=(3:Int))) then((decide (t.aj=(3:Int)))) else((decide (t.aj=(4:Int))))) then((decide (((t.bV.l.length:Nat):Int)=(0:Int)))) else(bif (decide (t.aj=(5:Int))) then((decide (((t.bG.l.length:Nat):Int)=(0:Int)))) else(false)))
def vb (t:ay):Bool:=((((((t.aa==([81,117,101,114,121]:Bs)))||((t.aa==([77,117,116,97,116,105,111,110]:Bs))))||((t.aa==([83,117,98,115,99,114,105,112,116,105,111,110]:Bs))))&&(!decide (t.aj=(1:Int))))||(decide (t.aj<(1:Int))))||(decide ((5:Int)<t.aj))
def sU (d:an) (t:ay):List Z9 :=
 bif (bif (decide (t.aj=(1:Int))) then((decide (t.aj=(1:Int)))) else((decide (t.aj=(2:Int))))) then qJ d t.aa [] t.bA.l else bif decide (t.aj=(4:Int)) then oF t.aa [] t.bV.l else bif decide (t.aj=(5:Int)) then jY d (t.aa++[46]) [] [] t.bG.l else []
noncomputable def sV (d:an) (s:List Bs) (t:ay):List Z9 :=
 (cw (!gj t.aa) 6 t.aa++cw (s.contains t.aa||fu t.aa) 7 t.aa)++(cw (yz t) 8 t.aa++(cw (vb t) 9 t.aa++cw (decide (t.aj=(5:Int))&&oE d t) 5 t.aa))
noncomputable def oG (d:an):List Bs->List ay->List Z9
 | _,[]=>[]
 | s,t::r=>sV d s t++(sU d t++oG d (s++[t.aa]) r)
noncomputable def sW (d:an) (b:Bool):List Z9:=oG d [] d.aA.l++cw (b&&!(bY d.aA.l ([81,117,101,114,121]:Bs)).2) 30 ([81,117,101,114,121]:Bs)
theorem Kg {α:Type} [DecidableEq α]:∀(l m:List α),l.Nodup->(∀x∈l,x∈m)->l.length<=m.length
 | [],_,_,_=>by simp
 | a::r,m,hn,b=>by
  have h1:a∈m:=b a (by simp);have h2:=Kg r (m.erase a) (List.nodup_cons.1 hn).2 fun x hx=>by
   refine(List.mem_erase_of_ne ?_).2 (b x (by simp [hx]));rintro rfl; exact(List.nodup_cons.1 hn).1 hx
  have f:=List.length_erase_of_mem h1;have g:0<m.length:=List.length_pos_of_mem h1;simp only [List.length_cons]; omega
def oH (d:an) (own:Bs) (l:List Bs) (x:az):List Bs:=if gd d own x&&!l.contains x.aM.aa then l++[x.aM.aa] else l
def jx (d:an) (t:List az) (own:Bs) (l:List Bs):List Bs:=t.foldl (oH d own) l
theorem sX (d:an) (own:Bs) (t:List az):∀(l:List Bs) (n:Bs),n∈jx d t own l↔n∈l\/∃x∈t,gd d own x=true/\x.aM.aa=n:=by
 unfold jx;induction t with
 | nil=>intro l n; simp
 | cons x r b =>
  intro l n;rw [List.foldl_cons,b];unfold oH;simp only [List.mem_cons,exists_eq_or_imp]
  split
  ·rename_i h
   rw [Bool.and_eq_true] at h;simp only [List.mem_append,List.mem_singleton];constructor
   ·rintro ((h1|rfl)|h1)
    ·exact .inl h1
    ·exact .inr (.inl ⟨h.1,rfl⟩)
    ·exact .inr (.inr h1)
   ·rintro (h1|⟨_,rfl⟩|h1)
    ·exact .inl (.inl h1)
    ·exact .inl (.inr rfl)
    ·exact .inr h1
  ·rename_i h
   constructor
   ·rintro (h1|h1)
    ·exact .inl h1
    ·exact .inr (.inr h1)
   ·rintro (h1|⟨h2,rfl⟩|h1)
    ·exact .inl h1
    ·rw [h2,Bool.true_and] at h;exact .inl (by simpa using h)
    ·exact .inr h1
theorem Kh (d:an) (own:Bs) (t:List az):∀(l:List Bs),l.Nodup->(jx d t own l).Nodup:=by
 unfold jx;induction t with
 | nil=>intro l h; exact h
 | cons x r g =>
  intro l hl;rw [List.foldl_cons];refine g _ ?_;unfold oH
  split
  ·rename_i h
   rw [Bool.and_eq_true] at h;have h2:x.aM.aa∉l:=by simpa using h.2
   rw [List.nodup_append];refine⟨hl,by simp, ?_⟩;intro a j b f;simp only [List.mem_singleton] at f;subst f; rintro rfl; exact h2 j
  ·exact hl
theorem SK (d:an) (own:Bs) (t:List az):∀(l:List Bs),l <+: jx d t own l:=by
 unfold jx;induction t with
 | nil=>intro l; exact List.prefix_refl _
 | cons x r b =>
  intro l;rw [List.foldl_cons];refine List.IsPrefix.trans ?_ (b _);unfold oH
  split
  ·exact List.prefix_append _ _
  ·exact List.prefix_refl _
theorem SL {l:List ay}{s:Bs}(h:(bY l s).2=true):s∈l.map (·.aa):=by
 have hn:=Bq h;rcases Ba l s with e|e
 ·unfold bY at h e hn;cases b:l.find? (fun t=>t.aa==s) with
  | none=>rw [b] at h; cases h
  | some t=>exact List.mem_map.2 ⟨t,List.mem_of_find?_eq_some b,by have:=List.find?_some b; simpa using this⟩
 ·exact List.mem_map.2 ⟨_,e,hn⟩
theorem Ki {d:an}{own:Bs}{x:az}(h:gd d own x=true):x.aM.aa=own\/x.aM.aa∈d.aA.l.map (·.aa):=by
 unfold gd at h;simp only [Bool.and_eq_true,Bool.or_eq_true] at h;rcases h.2 with h|h
 ·exact .inl (by simpa using h)
 ·exact .inr (SL h.1)
structure lW (d:an) (own:Bs) (t:List az) (i:Nat) (l:List Bs):Prop where
 reach:∀n∈l,qI d own t n
 first:∀x∈t,gd d own x=true->x.aM.aa∈l
 done:∀k (h:k<l.length),k<i->∀x∈oC d l[k],gd d own x=true->x.aM.aa∈l
 nodup:l.Nodup
 known:∀n∈l,n=own\/n∈d.aA.l.map (·.aa)
 le:i<=l.length
theorem lW.start (d:an) (own:Bs) (t:List az):lW d own t 0 (jx d t own []):=by
 refine⟨fun n hn=>?_,fun x hx hg=>(sX _ _ _ _ _).2 (.inr ⟨x,hx,hg,rfl⟩),fun k _ h=>absurd h (Nat.not_lt_zero _),Kh _ _ _ _ List.nodup_nil,fun n hn=>?_,Nat.zero_le _⟩
 ·rcases (sX _ _ _ _ _).1 hn with h|⟨x,hx,hg,rfl⟩
  ·simp at h
  ·exact .here hx hg
 ·rcases (sX _ _ _ _ _).1 hn with h|⟨x,hx,hg,rfl⟩
  ·simp at h
  ·exact Ki hg
theorem lW.step {d:an}{own:Bs}{t:List az}{i:Nat}{l:List Bs}(h:lW d own t i l) (hi:i<l.length):lW d own t (i+1) (jx d (oC d l[i]) own l):=by
 have b:=SK d own (oC d l[i]) l;have f:∀n,n∈l->n∈jx d (oC d l[i]) own l:=fun n hn=>(sX _ _ _ _ _).2 (.inl hn);refine⟨fun n hn=>?_,fun x hx hg=>f _ (h.first x hx hg),fun k hk m x hx hg=>?_,Kh _ _ _ _ h.nodup,fun n hn=>?_,Nat.le_trans hi b.length_le⟩
 ·rcases (sX _ _ _ _ _).1 hn with h1|⟨x,hx,hg,rfl⟩
  ·exact h.reach n h1
  ·exact .step (h.reach _ (List.getElem_mem hi)) hx hg
 ·have g:k<l.length:=by omega
  have e:(jx d (oC d l[i]) own l)[k]=l[k]:=(b.getElem g).symm;rw [e] at hx;by_cases j:k<i
  ·exact f _ (h.done k g j x hx hg)
  ·have:k=i:=by omega
   subst this;exact(sX _ _ _ _ _).2 (.inr ⟨x,hx,hg,rfl⟩)
 ·rcases (sX _ _ _ _ _).1 hn with h1|⟨x,hx,hg,rfl⟩
  ·exact h.known n h1
  ·exact Ki hg
theorem lW.len {d:an}{own:Bs}{t:List az}{i:Nat}{l:List Bs}(h:lW d own t i l):l.length<=d.aA.l.length+1:=by
 have:=Kg l (own::d.aA.l.map (·.aa)) h.nodup fun x hx=>by
  rcases h.known x hx with e|e
  ·simp [e]
  ·exact List.mem_cons_of_mem _ e
 simpa using this
open Classical in
theorem lW.end {d:an}{own:Bs}{t:List az}{i:Nat}{l:List Bs}(h:lW d own t i l) (hi:l.length<=i):l.contains own=decide (qI d own t own):=by
 have ct:∀n,qI d own t n->n∈l:=by
  intro n hn;induction hn with
  | here hx hg=>exact h.first _ hx hg
  | @step n x _ hx hg b =>
   obtain⟨k,hk,e⟩:=List.getElem_of_mem b;exact h.done k hk (by omega) x (by rw [e]; exact hx) hg
 rw [Bool.eq_iff_iff];simp only [List.contains_iff_mem,decide_eq_true_eq];exact⟨fun hm=>h.reach _ hm,fun hr=>ct _ hr⟩
end Go.Proofs
