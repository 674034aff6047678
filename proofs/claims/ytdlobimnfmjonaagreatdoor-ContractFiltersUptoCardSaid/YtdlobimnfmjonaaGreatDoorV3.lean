import Derived.Test.YtdlobimnfmjonaaGreatDoorV2
set_option maxRecDepth 100000
set_option maxHeartbeats 2000000
set_option linter.unusedVariables false
set_option linter.unusedSimpArgs false
namespace Go.Proofs
open Go Go.Ab
open aJ aq ah dN fT
attribute [local irreducible] aJ aN ah aq
variable {av:bR}
def js (m:aL) (p:Int) (g:Z3->aL->Z9->Int->Option (Z9×Z3)):List Z9->Z3->Z9->Option ((Z3×Z9))
 | [],f,b=>some (f,b)
 | q::r,f,b=>bif (decide (f.cV=(0:Int))) then(on (q) fun s=>(cF p (1:Int)).bind fun t=>(g f m s t).bind fun j=>(bf 80 b.aG (⟨false,[j.1]⟩:Sl Z9)).bind fun k=>js m p g (r) j.2 (Z9.mk b.ak b.bz b.br k.nl k.l b.aW)) else(some (f,b))
def jK (f:ag):List Bs->Z3->Z3
 | [],b=>b
 | g::j,b=>on (g) fun k=>on (jG f.ay k) fun l=>on (bif (!l.2) then(on (fH b (22:Int)) fun m=>m) else(b)) fun p=>jK f (j) p
def gU (w:ag) (y:Z9) (p:Int) (q:Z3->aL->Z9->Int->Option (Z9×Z3)) (r:Z3->aL->Z9->Int->Option (Z9×Z3)):List Z7->Nat->Z3->Z9->Option ((Z3×Z9))
 | [],k,b,f=>some (b,f)
 | z::B,k,b,f=>bif (decide (b.cV=(0:Int))) then(on (z) fun g=>(wM w.ay ((k:Nat):Int)).bind fun C=>Option.bind (bif C then(some (b,f)) else((mL y g.aa).bind fun j=>aY (j.2) (qF b j.1) false fun E=>on (fun(F:Z3) (G:Z9)=>(bf 16 f.aW (⟨false,[g.aa]⟩:Sl Bs)).bind fun H=>(bf 80 f.aG (⟨false,[G]⟩:Sl Z9)).bind fun s=>some (F,(Z9.mk f.ak f.bz f.br s.nl s.l H))) fun m=>bif (j.2&&(!E)) then((cF p (1:Int)).bind fun I=>(q b g.ax j.1 I).bind fun t=>m t.2 t.1) else(bif g.b_ then((cF p (1:Int)).bind fun J=>(r b g.ax g.dm J).bind fun u=>m u.2 u.1) else(on (iv g.ax) fun K=>bif K then(on (fH b (22:Int)) fun L=>m L Z9.zero) else(some (b,f)))))) fun v=>gU w y p q r (B) (k+1) v.1 v.2) else(some (b,f))
mutual
def eO:Nat->Z3->aL->Z9->Int->Option (Z9×Z3)
 | 0,_,_,_,_=>none
 | n+1,a0,f,l,j=>on (jH a0.Fd f.aa) fun w=>bif (!w) then(on (fH a0 (10:Int)) fun x7=>some ((Z9.mk 0 0 [] true [] Sl.nil),x7)) else(on (fun(y:Z3) (g:Z9)=>(lJ y j).bind fun b=>bif (!decide (b.cV=(0:Int))) then(some ((Z9.mk 0 0 [] true [] Sl.nil),b)) else(bif (decide (g.ak=(0:Int))) then(on (iv f) fun z=>on (bif z then(on (fH b (23:Int)) fun B=>B) else(b)) fun C=>some ((Z9.mk 0 0 [] true [] Sl.nil),C)) else((mu f).bind fun m=>bif m.2 then(((kR n) b m.1 g j).bind fun p=>some (p.1,p.2)) else(on (iO f.aa) fun E=>bif E then((kO b f.aa g).bind fun q=>some (q.1,q.2)) else(on (fe b.Fd f.aa) fun k=>bif (decide (k.1.ak=(4:Int))) then(on (kQ b k.1 g) fun r=>some (r.1,r.2)) else(((kS n) b k.1 g j).bind fun s=>some (s.1,s.2))))))) fun t=>bif (a0.fG&&(decide (l.ak=(7:Int)))) then((mL a0.fc l.br).bind fun u=>bif (!decide (u.1.ak=(0:Int))) then((EK a0 u.1 j).bind fun v=>some (v.1,v.2)) else(t a0 (Z9.mk 0 0 [] true [] Sl.nil))) else(t a0 l))
def kR:Nat->Z3->aL->Z9->Int->Option (Z9×Z3)
 | 0,_,_,_,_=>none
 | n+1,a0,k,b,m=>on (bif (decide (b.ak=(5:Int))) then(b.aG) else((⟨false,[b]⟩:Sl Z9))) fun j=>Option.bind (js k m (eO n) j.l a0 (Z9.mk 5 0 [] true [] Sl.nil)) fun f=>on ((f.1,f.2)) fun g=>some (g.2,g.1)
def kS:Nat->Z3->ag->Z9->Int->Option (Z9×Z3)
 | 0,_,_,_,_=>none
 | n+1,a0,b,f,q=>bif (!decide (f.ak=(6:Int))) then(on (fH a0 (23:Int)) fun k=>some ((Z9.mk 0 0 [] true [] Sl.nil),k)) else(on (jK b f.aW.l a0) fun m=>on (m) fun p=>Option.bind (gU b f q (eO n) (iw n) b.ay.l 0 p (Z9.mk 6 0 [] true [] Sl.nil)) fun g=>on ((g.1,g.2)) fun j=>some (j.2,j.1))
def iw:Nat->Z3->aL->Z9->Int->Option (Z9×Z3)
 | 0,_,_,_,_=>none
 | n+1,a0,b,f,g=>((eO n) (Z3.mk a0.Fd (Z9.mk 0 0 [] true [] Sl.nil) true a0.jk a0.cV) b f g).bind fun x5=>some (x5.1,(Z3.mk x5.2.Fd a0.fc a0.fG x5.2.jk x5.2.cV))
end
def xb (n:Nat):Prop:=∀{a0:Z3}{a1:aL}{a2:Z9}{a3:Int}  {c0:Nat}{r:(Z9×Z3)},eO n a0 a1 a2 a3=some r->∀(H:af) (bX:H c0=some (.cells (Z3.c a0))),AC Tryz.prog 178 [.d (.ptr c0 0),.agg (aL.c a1),.agg (Z9.c a2),.d (.int .i64 a3)] H fun v h'=>v=.a (.agg (Z9.c r.1))/\h'=(cS H c0 (Z3.c r.2))
def xd (n:Nat):Prop:=∀{a0:Z3}{a1:aL}{a2:Z9}{a3:Int}  {c0:Nat}{r:(Z9×Z3)},kR n a0 a1 a2 a3=some r->∀(H:af) (bX:H c0=some (.cells (Z3.c a0))),AC Tryz.prog 199 [.d (.ptr c0 0),.agg (aL.c a1),.agg (Z9.c a2),.d (.int .i64 a3)] H fun v h'=>v=.a (.agg (Z9.c r.1))/\h'=(cS H c0 (Z3.c r.2))
def xe (n:Nat):Prop:=∀{a0:Z3}{a1:ag}{a2:Z9}{a3:Int}  {c0:Nat}{r:(Z9×Z3)},kS n a0 a1 a2 a3=some r->∀(H:af) (bX:H c0=some (.cells (Z3.c a0))),AC Tryz.prog 202 [.d (.ptr c0 0),.agg (ag.c a1),.agg (Z9.c a2),.d (.int .i64 a3)] H fun v h'=>v=.a (.agg (Z9.c r.1))/\h'=(cS H c0 (Z3.c r.2))
def xf (n:Nat):Prop:=∀{a0:Z3}{a1:aL}{a2:Z9}{a3:Int}  {c0:Nat}{r:(Z9×Z3)},iw n a0 a1 a2 a3=some r->∀(H:af) (bX:H c0=some (.cells (Z3.c a0))),AC Tryz.prog 213 [.d (.ptr c0 0),.agg (aL.c a1),.agg (Z9.c a2),.d (.int .i64 a3)] H fun v h'=>v=.a (.agg (Z9.c r.1))/\h'=(cS H c0 (Z3.c r.2))
theorem Vv (n:Nat) (ao:xb (av:=av) n) (p:xd (av:=av) n) (q:xe (av:=av) n) (ap:xf (av:=av) n):xb (av:=av) (n+1):=by
 intro a0 aV an aW  c0 r b H bX;rw [eO] at b;refine AC.oW 111 [.cell 8 72] Tryz.call178 Tryz.func178 ?_;refine hz (cS H c0 (Z3.c a0)) (Y2 ?_);refine sL (vz rfl (by repeat (first|exact ee.nil|apply ee.cons))) rfl ?_;refine Y2 ?_;refine ar fun au s=>Y7 ?_;obtain⟨aw,t,b⟩:=vT rfl b;refine cH rfl rfl (DW t) (Y2 ?_);refine cE b (fun u b=>?_) (fun u b=>?_)
 ·refine Y2 ?_;obtain⟨x7,v,b⟩:=vT rfl b;refine sH (bS rfl rfl (ri v _ aA)) rfl ?_;refine hq (cS H c0 (Z3.c x7)) (Y5 ?_);exact rt b
 refine sk s ?_;obtain⟨w,y,b⟩:=mT b;refine cT (tl [0,3,5,6,8]) (fun(z:Z3×Z9×Z9)=>[]) (fun z=>[Z9.c z.2.1,Z9.c z.2.2]) (fun z=>(cS H c0 (Z3.c z.1))) (fun z=>(w z.1 z.2.1)=some r) ?_ ?_
 ·intro ax f;refine Y7 ?_;refine gC rfl rfl (fun hC=>nq (k:=31) rfl (jP (TK rfl) rfl rfl rfl rfl)) rfl ?_;refine Gk 32 ?_;refine Y2 ?_;refine cE b (fun B b=>?_) (fun B b=>?_)
  ·refine Y7 ?_;obtain⟨ay,C,b⟩:=qT rfl b;refine cH rfl rfl (Fv C) (Y7 ?_);refine bx 9 _ rfl (kl [0,3,5,6,8]) ?_;refine ar fun az E=>Y5 ?_;refine cE b (fun F b=>?_) (fun F b=>?_)
   ·refine Y4 ?_;obtain⟨G,I,b⟩:=qT rfl b;refine sH (bS rfl rfl (Vo I _ aA)) rfl ?_;refine hq (cS H c0 (Z3.c G.2)) (Y2 ?_);exact rt b
   refine sk E (Y4 ?_);exact f _ (a0,(Z9.mk 0 0 [] true [] Sl.nil),Z9.zero) wA b
  refine ah.skip ?_;exact f _ (a0,an,Z9.zero) wA b
 rintro ⟨aB,aC,aD⟩ b;rw [y] at b;refine Y3 ?_;obtain⟨g,J,b⟩:=qT rfl b;refine sH (bS rfl rfl (Ml J _ aA)) rfl ?_;refine hq (cS H c0 (Z3.c g)) (Y1 ?_);refine ar fun aE K=>Y7 ?_;refine cE b (fun L b=>?_) (fun L b=>?_)
 ·refine Y4 ?_;exact rt b
 refine sk K (ar fun aF M=>Y5 ?_);refine cE b (fun N b=>?_) (fun N b=>?_)
 ·refine aR (tl [8]) (fun(z:Z3)=>[]) (fun z=>(cS H c0 (Z3.c z))) (fun z=>(some ((Z9.mk 0 0 [] true [] Sl.nil),z))=some r) ?_ ?_
  ·intro aG j;refine Y2 ?_;obtain⟨aH,O,b⟩:=vT rfl b;refine Sc rfl rfl (tO O) (Y1 ?_);obtain⟨aI,l,b⟩:=bW b;refine cP b (fun P b=>?_) (fun P b=>?_)
   ·refine Y2 ?_;obtain⟨m,Q,b⟩:=vP rfl b;refine sH (bS rfl rfl (ri Q _ aA)) rfl ?_;refine hq (cS H c0 (Z3.c m)) (Y1 ?_);exact j _ m wA (ku l b:)
   refine ah.skip ?_;exact j _ g wA (ku l b:)
  rintro aK b;refine Y4 ?_;exact rt b
 refine sk M (ar fun aL R=>Y2 ?_);obtain⟨aM,S,b⟩:=qT rfl b;refine Sc rfl rfl (Fs S) (Y7 ?_);refine bx 11 _ rfl (kl [0,3,5,6,8,12]) ?_;refine Y3 ?_;refine cE b (fun U b=>?_) (fun U b=>?_)
 ·refine Y5 ?_;obtain⟨W,X,b⟩:=qT rfl b;refine sH (bS rfl rfl (p X _ aA)) rfl ?_;refine hq (cS H c0 (Z3.c W.2)) (Y2 ?_);exact rt b
 refine sk R (ar fun aP Y=>Y3 ?_);obtain⟨aQ,Z,b⟩:=vT rfl b;refine Sc rfl rfl (uz Z) (Y1 ?_);refine cE b (fun aa b=>?_) (fun aa b=>?_)
 ·refine Y5 ?_;obtain⟨ab,ad,b⟩:=qT rfl b;refine sH (bS rfl rfl (Vs ad _ aA)) rfl ?_;refine hq (cS H c0 (Z3.c ab.2)) (Y2 ?_);exact rt b
 refine sk Y (Y7 ?_);obtain⟨aT,ae,b⟩:=vT rfl b;refine cH rfl rfl (l_ ae) (Y7 ?_);refine bx 13 _ rfl (kl [0,3,6,8]) ?_;refine ar fun aU ag=>Y5 ?_;refine cE b (fun ai b=>?_) (fun ai b=>?_)
 ·refine Y4 ?_;obtain⟨aj,ak,b⟩:=vT rfl b;refine sH (bS rfl rfl (Vt ak _ aA)) rfl ?_;refine hq (cS H c0 (Z3.c aj.2)) (Y2 ?_);exact rt b
 refine sk ag (Y5 ?_);obtain⟨al,am,b⟩:=qT rfl b;refine sH (bS rfl rfl (q am _ aA)) rfl ?_;refine hq (cS H c0 (Z3.c al.2)) (Y2 ?_);exact rt b
theorem Vw (n:Nat) (J:xb (av:=av) n) (al:xd (av:=av) n) (an:xe (av:=av) n) (ao:xf (av:=av) n):xd (av:=av) (n+1):=by
 intro a0 F G I  c0 r b H bX;rw [kR] at b;refine AC.oW 50 [.cell 8 72] Tryz.call199 Tryz.func199 ?_;refine hz (cS H c0 (Z3.c a0)) (oI ?_);obtain⟨K,L,b⟩:=bW b;refine aR (tl [0,3,5,8]) (fun(z:(Sl Z9))=>[(9,.a (.d (Sl.d 5 Z9.c none z)))]) (fun z=>(cS H c0 (Z3.c a0))) (fun z=>K z=some r) ?_ ?_
 ·intro ap q;refine Y5 ?_;refine cP b (fun M b=>?_) (fun M b=>?_)
  ·refine Y2 ?_;refine s0 (dU (TK rfl) rfl rfl (congrArg (fun x=>some (A.d x)) (Z9.eN _))) rfl ?_;refine Y2 ?_;exact q _ G.aG wA b
  refine ah.skip ?_;exact q _ (⟨false,[G]⟩:Sl Z9) wA b
 rintro k b;have b:=ku L b;refine Y3 ?_;refine aJ.tok 5 fun f u=>?_;obtain⟨au,u⟩:=af.dW u;refine aJ.cq 1 _ rfl (fun j w cs hh hx=>tok_cell 3 5 5 hh (t:=f) aA hx rfl) ?_;refine Y1 ?_;refine aJ.cq 1 _ rfl (fun j w cs hh hx=>tok_cell 3 5 5 hh (t:=f) aA hx rfl) ?_;refine Y1 ?_
 refine cT (tl [8,10]) (fun(z:Z3×Z9)=>[]) (fun z=>[Z9.c Z9.zero,((bI .i64) z.2.ak++(bI .i64) z.2.bz++aB z.2.br++[Sl.d 5 Z9.c (some f) z.2.aG]++(fun s=>[Sl.d 1 aB none s]) z.2.aW)]) (fun z=>(tS (cS H c0 (Z3.c z.1)) f 5 z.2.aG)) (fun z=>(some (z.2,z.1))=some r) ?_ ?_
 ·intro aw N;refine Y4 ?_;obtain⟨m,O,b⟩:=bZ b
  refine eZ (tl [0,3,5,8,9,10]) (fun(z:Nat×Z3×Z9)=>[(11,vi z.1)]) (fun z=>[Z9.c Z9.zero,((bI .i64) z.2.2.ak++(bI .i64) z.2.2.bz++aB z.2.2.br++[Sl.d 5 Z9.c (some f) z.2.2.aG]++(fun s=>[Sl.d 1 aB none s]) z.2.2.aW)]) (fun z=>(tS (cS H c0 (Z3.c z.2.1)) f 5 z.2.2.aG)) (fun z=>k.l.length-z.1) (fun z=>Option.bind (js F I (eO n) (k.l.drop z.1) z.2.1 z.2.2) m=some r) (0,a0,(Z9.mk 5 0 [] true [] Sl.nil)) b wA ?_
  rintro ⟨v,p,g⟩ b ax P;refine ar fun ay Q=>Y3 ?_;refine aT Z9.c k fun az=>Y3 ?_;refine Gk 26 ?_;refine bG 27 rfl (fun hC=>iD (TK rfl) rfl rfl (TK rfl) rfl rfl) ?_;refine bG 28 rfl (fun hC=>eM (TK rfl) rfl rfl aA rfl) ?_;refine Gk 29 ?_;refine Y2 ?_
  refine ah.AR (fun l=>Option.bind (js F I (eO n) l p g) m=some r) (Option.bind (some (p,g)) m=some r) b (fun b=>by rw [js] at b; exact b) (fun _ R b=>by rw [js] at b; rw [R] at b; exact b) rfl rfl (fun aC y B S b=>?_) (fun B b=>?_)
  ·rw [js] at b;rw [S,cond_true] at b;have aD:=oD (and_left B);refine sk Q (ar fun aE U=>Y6 ?_);obtain⟨aF,W,b⟩:=vO y b;refine Sd (ix Z9.c v W) (Y2 ?_);obtain⟨aH,X,b⟩:=qO rfl b;refine aN.s0 (AI rfl rfl X) rfl ?_;obtain⟨Y,Z,b⟩:=qO rfl b;refine aN.sH (bS rfl rfl (J Z _ aA)) rfl ?_;refine Y3 ?_
   refine bx 12 _ rfl (kl [0,3,5,8,9,10,11]) ?_;refine Y5 ?_;obtain⟨C,aa,b⟩:=qO rfl b;refine SH (am Z9.c (TK rfl) rfl (TK rfl) (TK rfl) aa) ?_;refine Y3 ?_;refine U _ ?_;refine Y5 ?_;exact P _ ((v+1),Y.2,(Z9.mk g.ak g.bz g.br C.nl C.l g.aW)) wA b (dl y)
  have b:=ku O b;refine ah.exit ?_;obtain⟨aI,ab,b⟩:=bW b;exact N _ (p,g) wA (ku ab b:)
 rintro ⟨ad,ae⟩ b;refine ar fun aK ag=>ah.cq 1 _ rfl (fun j w cs hh hx=>iE 3 hx rfl) ?_;refine ah.cq 1 (Z9.c ae) rfl (fun j w cs hh hx=>by rw [Z9.l8]; exact hx) ?_;refine Y4 ?_;refine ag _ ?_;refine ry ?_;obtain rfl:=oJ b;refine bH.b9 (cS H c0 (Z3.c ad)) rfl ⟨rfl,rfl⟩ ?_;intro ai aL E;have aM:ai≠f:=fun aj=>by subst aj; simp_all [af.set]
 rw [<- E];simp only [af.set] at E ⊢;(repeat' split)<;>simp_all
theorem Vx (n:Nat) (ai:xb (av:=av) n) (bo:xd (av:=av) n) (bp:xe (av:=av) n) (aj:xf (av:=av) n):xe (av:=av) (n+1):=by
 intro a0 m p C  c0 r b H bX;rw [kS] at b;refine AC.oW 123 [.cell 8 72] Tryz.call202 Tryz.func202 ?_;refine hz (cS H c0 (Z3.c a0)) (Y5 ?_);refine ar fun bq al=>Y5 ?_;refine cE b (fun an b=>?_) (fun an b=>?_)
 ·refine Y2 ?_;obtain⟨ao,ap,b⟩:=vT rfl b;refine sH (bS rfl rfl (ri ap _ aA)) rfl ?_;refine hq (cS H c0 (Z3.c ao)) (Y5 ?_);exact rt b
 refine sk al (aR (tl [0,3,5,6,8]) (fun(z:Z3)=>[]) (fun z=>(cS H c0 (Z3.c z))) (fun z=>(Option.bind (gU m p C (eO n) (iw n) m.ay.l 0 z (Z9.mk 6 0 [] true [] Sl.nil)) fun P=>on ((P.1,P.2)) fun Q=>some (Q.2,Q.1))=some r) ?_ ?_)
 ·intro bs au;refine Y4 ?_;obtain⟨E,aw,b⟩:=bW b;refine bD (tl [0,3,5,6,8]) (fun(z:Nat×Z3)=>[(9,vi z.1)]) (fun z=>(cS H c0 (Z3.c z.2))) (fun z=>p.aW.l.length-z.1) (fun z=>E (jK m (p.aW.l.drop z.1) z.2)=some r) (0,a0) b wA ?_;rintro ⟨F,G⟩ b bt ax;refine ar fun bu az=>Y4 ?_;refine aT aB p.aW fun bv=>Y2 ?_
  refine ah.bL (fun l=>E (jK m l G)=some r) b rfl (fun bw R aC b=>?_) (fun aC b=>?_)
  ·rw [jK] at b;refine sk az (aR (tl [0,3,5,6,8,9]) (fun(z:Z3)=>[]) (fun z=>(cS H c0 (Z3.c z))) (fun z=>E (jK m (p.aW.l.drop (F+1)) z)=some r) ?_ ?_)
   ·intro bA U;refine Y7 ?_;obtain⟨bB,aD,b⟩:=vP R b;refine Sd (ix aB F aD) (Y1 ?_);obtain⟨bC,aE,b⟩:=vP rfl b;refine cH rfl rfl (A8 aE) (Y7 ?_);refine bx 10 _ rfl (kl [0,3,5,6,8,9,11]) ?_;refine Y4 ?_;obtain⟨bE,W,b⟩:=dX b;refine cP b (fun aF b=>?_) (fun aF b=>?_)
    ·refine Y2 ?_;obtain⟨X,aH,b⟩:=vP rfl b;refine sH (bS rfl rfl (ri aH _ aA)) rfl ?_;refine hq (cS H c0 (Z3.c X)) (Y1 ?_);exact U _ X wA (ku W b:)
    refine ah.skip ?_;exact U _ G wA (ku W b:)
   rintro aI b;refine Y5 ?_;exact ax _ ((F+1),aI) wA b (dl R)
  rw [jK] at b;have b:=ku aw b;refine ah.exit ?_;obtain⟨bF,aK,b⟩:=bW b;exact au _ G wA (ku aK b:)
 rintro aL b;refine Y3 ?_;refine aJ.tok 5 fun g Y=>?_;obtain⟨bJ,Y⟩:=af.dW Y;refine aJ.cq 1 _ rfl (fun j w cs hh hx=>tok_cell 3 5 5 hh (t:=g) aA hx rfl) ?_;refine aJ.tok 1 fun k y=>?_;obtain⟨bK,y⟩:=af.dW y;obtain⟨bM,y⟩:=af.dW y
 refine aJ.cq 1 _ rfl (fun j w cs hh hx=>tok_cell 4 1 1 hh (t:=k) aA hx rfl) ?_;refine Y1 ?_;refine aJ.cq 1 _ rfl (fun j w cs hh hx=>tok_cell 3 5 5 hh (t:=g) aA hx rfl) ?_;refine aJ.cq 1 _ rfl (fun j w cs hh hx=>tok_cell 4 1 1 hh (t:=k) aA hx rfl) ?_;refine Y1 ?_
 refine cT (tl [8,12]) (fun(z:Z3×Z9)=>[]) (fun z=>[Z9.c Z9.zero,((bI .i64) z.2.ak++(bI .i64) z.2.bz++aB z.2.br++[Sl.d 5 Z9.c (some g) z.2.aG]++[Sl.d 1 aB (some k) z.2.aW])]) (fun z=>((tS (cS H c0 (Z3.c z.1)) g 5 z.2.aG).set k (some (.tok 1 z.2.aW.l.length)))) (fun z=>(some (z.2,z.1))=some r) ?_ ?_
 ·intro bN aM;refine Y4 ?_;obtain⟨B,aP,b⟩:=bZ b
  refine eZ (tl [0,3,5,6,8,12]) (fun(z:Nat×Z3×Z9)=>[(13,vi z.1)]) (fun z=>[Z9.c Z9.zero,((bI .i64) z.2.2.ak++(bI .i64) z.2.2.bz++aB z.2.2.br++[Sl.d 5 Z9.c (some g) z.2.2.aG]++[Sl.d 1 aB (some k) z.2.2.aW])]) (fun z=>((tS (cS H c0 (Z3.c z.2.1)) g 5 z.2.2.aG).set k (some (.tok 1 z.2.2.aW.l.length)))) (fun z=>m.ay.l.length-z.1) (fun z=>Option.bind (gU m p C (eO n) (iw n) (m.ay.l.drop z.1) z.1 z.2.1 z.2.2) B=some r) (0,aL,(Z9.mk 6 0 [] true [] Sl.nil)) b wA ?_
  rintro ⟨s,u,f⟩ b bO aQ;refine ar fun bP aU=>Y4 ?_;refine aT Z7.c m.ay fun bQ=>Y3 ?_;refine Gk 53 ?_;refine bG 54 rfl (fun hC=>iD (TK rfl) rfl rfl (TK rfl) rfl rfl) ?_;refine bG 55 rfl (fun hC=>eM (TK rfl) rfl rfl aA rfl) ?_;refine Gk 56 ?_;refine Y2 ?_
  refine ah.AR (fun l=>Option.bind (gU m p C (eO n) (iw n) l s u f) B=some r) (Option.bind (some (u,f)) B=some r) b (fun b=>by rw [gU] at b; exact b) (fun _ aV b=>by rw [gU] at b; rw [aV] at b; exact b) rfl rfl (fun bR Z ab aX b=>?_) (fun ab b=>?_)
  ·rw [gU] at b;rw [aX,cond_true] at b;have bT:=oD (and_left ab);refine sk aU ?_
   refine cT (tl [0,3,5,6,8,12,13]) (fun(z:Z3×Z9)=>[]) (fun z=>[Z9.c Z9.zero,((bI .i64) z.2.ak++(bI .i64) z.2.bz++aB z.2.br++[Sl.d 5 Z9.c (some g) z.2.aG]++[Sl.d 1 aB (some k) z.2.aW])]) (fun z=>((tS (cS H c0 (Z3.c z.1)) g 5 z.2.aG).set k (some (.tok 1 z.2.aW.l.length)))) (fun z=>Option.bind (gU m p C (eO n) (iw n) (m.ay.l.drop (s+1)) (s+1) z.1 z.2) B=some r) ?_ ?_
   ·intro bU I;refine Y5 ?_;obtain⟨aY,aZ,b⟩:=vO Z b;refine S (ix Z7.c s aZ) (Y4 ?_);refine bx 14 _ rfl (kl [0,3,5,6,8,12,13]) ?_;refine ar fun bV a1=>Y4 ?_;obtain⟨bY,a2,b⟩:=qO rfl b;refine Sc rfl rfl (Vu a2) (Y1 ?_);obtain⟨a3,J,b⟩:=cM b;refine cO b (fun a4 b=>?_) (fun a4 b=>?_)
    ·refine ah.exit ?_;exact I _ (u,f) wA (ku J b:)
    refine sk a1 (Y4 ?_);obtain⟨b0,a5,b⟩:=qO rfl b;refine Sc rfl rfl (Fv a5) (Y7 ?_);refine bx 15 _ rfl (kl [0,3,5,6,8,12,13,14,16]) ?_;refine Y3 ?_
    refine cT (tl [0,3,5,6,8,12,13,14,17]) (fun(z:Z3×Z9)=>[]) (fun z=>[Z9.c Z9.zero,((bI .i64) f.ak++(bI .i64) f.bz++aB f.br++[Sl.d 5 Z9.c (some g) f.aG]++[Sl.d 1 aB (some k) f.aW]),Z9.c z.2]) (fun z=>((tS (cS H c0 (Z3.c z.1)) g 5 f.aG).set k (some (.tok 1 f.aW.l.length)))) (fun z=>Option.bind ((bf 16 f.aW (⟨false,[aY.aa]⟩:Sl Bs)).bind fun v=>(bf 80 f.aG (⟨false,[z.2]⟩:Sl Z9)).bind fun q=>some (z.1,(Z9.mk f.ak f.bz f.br q.nl q.l v))) a3=some r) ?_ ?_
    ·intro b1 K;refine Y6 ?_;obtain⟨b2,a6,b⟩:=e8 rfl b;refine e9 80 81 rfl rfl (fun hC=>eY rfl rfl (Mk (a6 hC) _ aA)) ?_;refine Gk 82 ?_;refine Y3 ?_;obtain⟨_,rfl,b⟩:=mO b;refine cO b (fun a7 b=>?_) (fun a7 b=>?_)
     ·refine Y6 ?_;obtain⟨b3,a8,b⟩:=qO rfl b;refine S (eC a8) ?_;obtain⟨L,a9,b⟩:=qO rfl b;refine sH (bS rfl rfl (ai a9 _ aA)) rfl ?_;refine hq ((tS (cS H c0 (Z3.c L.2)) g 5 f.aG).set k (some (.tok 1 f.aW.l.length))) (Y2 ?_);exact K _ (L.2,L.1) wA b
     refine Y5 ?_;refine cO b (fun a_ b=>?_) (fun a_ b=>?_)
     ·refine Y7 ?_;obtain⟨b4,a',b⟩:=qO rfl b;refine S (eC a') ?_;obtain⟨M,ba,b⟩:=qO rfl b;refine sH (bS rfl rfl (aj ba _ aA)) rfl ?_;refine hq ((tS (cS H c0 (Z3.c M.2)) g 5 f.aG).set k (some (.tok 1 f.aW.l.length))) (Y2 ?_);exact K _ (M.2,M.1) wA b
     refine Y3 ?_;obtain⟨b5,bb,b⟩:=vO rfl b;refine Sc rfl rfl (tO bb) (Y2 ?_);refine cO b (fun bc b=>?_) (fun bc b=>?_)
     ·refine Y2 ?_;obtain⟨ad,bd,b⟩:=vO rfl b;refine sH (bS rfl rfl (ri bd _ aA)) rfl ?_;refine hq ((tS (cS H c0 (Z3.c ad)) g 5 f.aG).set k (some (.tok 1 f.aW.l.length))) (Y1 ?_);exact K _ (ad,Z9.zero) wA b
     refine ah.exit ?_;exact I _ (u,f) wA (ku J b:)
    rintro ⟨N,b6⟩ b;refine Y6 ?_;obtain⟨v,be,b⟩:=qO rfl b;refine SH (am aB (TK rfl) rfl (TK rfl) (TK rfl) be) ?_;refine hq ((tS (cS H c0 (Z3.c N)) g 5 f.aG).set k (some (.tok 1 v.l.length))) (Y8 ?_);obtain⟨q,bg,b⟩:=qO rfl b;refine SH (am Z9.c (TK rfl) rfl (TK rfl) (TK rfl) bg) ?_
    refine hq ((tS (cS H c0 (Z3.c N)) g 5 q).set k (some (.tok 1 v.l.length))) (Y3 ?_);exact I _ (N,(Z9.mk f.ak f.bz f.br q.nl q.l v)) wA (ku J b:)
   rintro ⟨bh,bi⟩ b;refine Y5 ?_;exact aQ _ ((s+1),bh,bi) wA b (dl Z)
  have b:=ku aP b;refine ah.exit ?_;obtain⟨b7,bj,b⟩:=bW b;exact aM _ (u,f) wA (ku bj b:)
 rintro ⟨bk,bl⟩ b;refine ar fun b8 bm=>ah.cq 1 _ rfl (fun j w cs hh hx=>iE 3 hx rfl) ?_;refine ah.cq 1 _ rfl (fun j w cs hh hx=>iE 4 hx rfl) ?_;refine ah.cq 1 (Z9.c bl) rfl (fun j w cs hh hx=>by rw [Z9.l8]; exact hx) ?_;refine Y4 ?_;refine bm _ ?_;refine ry ?_;obtain rfl:=oJ b;refine bH.b9 (cS H c0 (Z3.c bk)) rfl ⟨rfl,rfl⟩ ?_;intro ae b_ ag
 have b':ae≠g:=fun O=>by subst O; simp_all [af.set]
 have ca:ae≠k:=fun O=>by subst O; simp_all [af.set]
 rw [<- ag];simp only [af.set] at ag ⊢;(repeat' split)<;>simp_all
theorem Vy (n:Nat) (f:xb (av:=av) n) (j:xd (av:=av) n) (k:xe (av:=av) n) (l:xf (av:=av) n):xf (av:=av) (n+1):=by
 intro a0 m p q  c0 r b H bX;rw [iw] at b;refine AC.oW 41 [.cell 8 72] Tryz.call213 Tryz.func213 ?_;refine hz (cS H c0 (Z3.c a0)) (P4 ?_);refine bx 9 _ rfl (kl [0,3,5,6,8,10]) ?_;refine Y6 ?_;refine dG (ue (TK rfl) rfl rfl aA rfl (Nat.le_of_ble_eq_true rfl) rfl rfl) rfl rfl ?_
 refine hq (H.set c0 (some (.cells (Z3.c (Z3.mk a0.Fd (Z9.mk 0 0 [] true [] Sl.nil) a0.fG a0.jk a0.cV))))) (Y2 ?_);refine dG (gv (TK rfl) rfl rfl aA rfl (by repeat (first|exact bn.zero|apply bn.succ))) rfl rfl ?_;refine hq (H.set c0 (some (.cells (Z3.c (Z3.mk a0.Fd (Z9.mk 0 0 [] true [] Sl.nil) true a0.jk a0.cV))))) (Y6 ?_);obtain⟨x5,g,b⟩:=qT rfl b
 refine sH (bS rfl rfl (f g _ aA)) rfl ?_;refine hq (cS H c0 (Z3.c x5.2)) (Y3 ?_);refine bx 11 _ rfl (kl [0,8,9,10]) ?_;refine Y7 ?_;refine dG (ue (TK rfl) rfl rfl aA rfl (Nat.le_of_ble_eq_true rfl) rfl rfl) rfl rfl ?_;refine hq (H.set c0 (some (.cells (Z3.c (Z3.mk x5.2.Fd a0.fc x5.2.fG x5.2.jk x5.2.cV))))) (Y2 ?_)
 refine dG (gv (TK rfl) rfl rfl aA rfl (by repeat (first|exact bn.zero|apply bn.succ))) rfl rfl ?_;refine hq (H.set c0 (some (.cells (Z3.c (Z3.mk x5.2.Fd a0.fc a0.fG x5.2.jk x5.2.cV))))) (Y5 ?_);exact rt b
theorem jx:∀(n:Nat),(xb (av:=av) n)/\(xd (av:=av) n)/\(xe (av:=av) n)/\(xf (av:=av) n)
 | 0=>⟨fun b=>by first|cases b|(rw [eO] at b; cases b),fun b=>by first|cases b|(rw [kR] at b; cases b),fun b=>by first|cases b|(rw [kS] at b; cases b),fun b=>by first|cases b|(rw [iw] at b; cases b)⟩
 | n+1=>⟨Vv n (jx n).1 (jx n).2.1 (jx n).2.2.1 (jx n).2.2.2,Vw n (jx n).1 (jx n).2.1 (jx n).2.2.1 (jx n).2.2.2,Vx n (jx n).1 (jx n).2.1 (jx n).2.2.1 (jx n).2.2.2,Vy n (jx n).1 (jx n).2.1 (jx n).2.2.1 (jx n).2.2.2⟩
def Vz (a0:Z3) (a1:aL) (a2:Z9) (a3:Int):Option (Z9×Z3):=eO F0 a0 a1 a2 a3
theorem VA {a0 b f g c0 r}(j:Vz a0 b f g=some r) (H:af) (bX:H c0=some (.cells (Z3.c a0))):AC Tryz.prog 178 [.d (.ptr c0 0),.agg (aL.c b),.agg (Z9.c f),.d (.int .i64 g)] H fun v h'=>v=.a (.agg (Z9.c r.1))/\h'=(cS H c0 (Z3.c r.2)):=(jx F0).1 j H bX
def BK (a0:Z3) (b:aL) (f:Z9) (g:Int):Option (Z9×Z3):=eO F0 a0 b f g
def qJ (a0:Z3) (b:aL) (f:Z9):Option (Z9×Int×Z3):=(BK a0 b f (1:Int)).bind fun x3=>bif (!decide (x3.2.cV=(0:Int))) then(some ((Z9.mk 0 0 [] true [] Sl.nil),x3.2.cV,x3.2)) else(some (x3.1,(0:Int),x3.2))
theorem VB {a0 f g c0 r}(b:qJ a0 f g=some r) (H:af) (bX:H c0=some (.cells (Z3.c a0))):AC Tryz.prog 143 [.d (.ptr c0 0),.agg (aL.c f),.agg (Z9.c g)] H fun v h'=>v=.cI [.agg (Z9.c r.1),.d (.int .i64 r.2.1)]/\h'=(cS H c0 (Z3.c r.2.2)):=by
 unfold qJ at b;refine AC.oW 24 [.cell 6 72,.tmp 7] Tryz.call143 Tryz.func143 ?_;refine hz (cS H c0 (Z3.c a0)) (oI ?_);obtain⟨x3,j,b⟩:=qT rfl b;refine sH (bS rfl rfl (VA j _ aA)) rfl ?_;refine hq (cS H c0 (Z3.c x3.2)) (Y3 ?_);refine bx 8 _ rfl (kl [0,6]) ?_;refine ar fun m k=>Y7 ?_;refine cE b (fun l b=>?_) (fun l b=>?_)
 ·refine Y9 ?_;exact rt b
 refine sk k (Y5 ?_);exact rt b
def nY (a0:ai) (g:aL) (j:Z9) (k:Z9):Option (Z9×Int):=on (jH a0 g.aa) fun b=>aY (b) (qF (Z3.mk a0 k true 0 0) j) false fun x7=>bif (b&&x7) then(some ((Z9.mk 0 0 [] true [] Sl.nil),(8:Int))) else((qJ (Z3.mk a0 k true 0 0) g j).bind fun f=>some (f.1,f.2.1))
theorem VC {a0 f g j r}(b:nY a0 f g j=some r) (H:af) :AC Tryz.prog 105 [.agg (ai.c a0),.agg (aL.c f),.agg (Z9.c g),.agg (Z9.c j)] H (RT (.cI [.agg (Z9.c r.1),.d (.int .i64 r.2)]) H):=by
 unfold nY at b;refine AC.oW 31 [.cell 8 72,.tmp 9] Tryz.call105 Tryz.func105 ?_;refine yt ?_;refine sE (dx.xX rfl) rfl (fun _ _ _ ⟨v,w,k,l,m⟩=>?_);subst k l m;refine Y2 ?_;refine ar fun y p=>Y4 ?_;obtain⟨z,q,b⟩:=vT rfl b;refine Sc rfl rfl (DW q) (Y3 ?_);obtain⟨x7,s,b⟩:=eE rfl b;refine e9 20 21 rfl rfl (fun hC=>eY rfl rfl (Mk (s hC) _ aA)) ?_;refine Y2 ?_
 refine cE b (fun t b=>?_) (fun t b=>?_)
 ·refine Y5 ?_;refine ry ?_;obtain rfl:=oJ b;refine bH.b9 H rfl ⟨rfl,rfl⟩ ?_;exact sy
 refine sk p (Y4 ?_);obtain⟨B,u,b⟩:=qT rfl b;refine sH (bS rfl rfl (VB u _ aA)) rfl ?_;refine Y5 ?_;refine ry ?_;obtain rfl:=oJ b;refine bH.b9 H rfl ⟨rfl,rfl⟩ ?_;exact sy
def qN (a0:ai) (g:Bs) (j:Bs) (k:Bs):List Z7->(Sl Z5)->Option ((Sl Z5))
 | [],b=>some b
 | f::l,b=>on (f) fun m=>Option.bind (bif (!m.b_) then(some b) else(on (f) fun p=>on (f) fun q=>(nY a0 p.ax q.dm (Z9.mk 0 0 [] true [] Sl.nil)).bind fun r=>bif (!decide (r.2=(0:Int))) then((bV g j).bind fun s=>on (f) fun t=>(bV s t.aa).bind fun u=>(bV u k).bind fun v=>(bf 24 b (⟨false,[(Z5.mk 23 v)]⟩:Sl Z5)).bind fun w=>some w) else(some b))) fun y=>qN a0 g j k (l) y
def u0 (a0:ai) (g:(Sl Z7)) (j:Bs) (k:Bs) (m:Bs):Option (Sl Z5):=Option.bind (qN a0 j k m g.l (Sl.nil:Sl Z5)) fun b=>on (b) fun f=>some f
theorem Mp {a0 j m p q w r}(b:u0 a0 j m p q=some r) (H:af) :AC Tryz.prog 60 [.agg (ai.c a0),.d (Sl.d 10 Z7.c w j),.d (.str m),.d (.str p),.d (.str q)] H (RT (.a (.d (Sl.d 2 Z5.c none r))) H):=by
 unfold u0 at b;refine AC.oW 61 [.tmp 10] Tryz.call60 Tryz.func60 ?_;refine ah.tok 2 fun f Z=>?_;refine Y2 ?_;refine s0 (di (k':=2) rfl) rfl ?_;refine Y4 ?_;refine ah.fK 11 2 f rfl aA ?_;refine aR kN (fun(z:(Sl Z5))=>[(11,.a (.d (Sl.d 2 Z5.c (some f) z)))]) (fun z=>(tS H f 2 z)) (fun z=>(some z)=some r) ?_ ?_
 ·intro aa y;refine Y4 ?_;obtain⟨t,B,b⟩:=bZ b;refine bD (tl [1,2,3,4,5]) (fun(z:(Sl Z5)×Nat)=>[(11,.a (.d (Sl.d 2 Z5.c (some f) z.1))),(12,vi z.2)]) (fun z=>(tS H f 2 z.1)) (fun z=>j.l.length-z.2) (fun z=>Option.bind (qN a0 m p q (j.l.drop z.2) z.1) t=some r) ((Sl.nil:Sl Z5),0) b wA ?_;rintro ⟨s,g⟩ b ab C;refine ar fun ad E=>Y3 ?_;refine aT Z7.c j fun ae=>Y2 ?_
  refine ah.bL (fun l=>Option.bind (qN a0 m p q l s) t=some r) b rfl (fun ag k F b=>?_) (fun F b=>?_)
  ·rw [qN] at b;refine sk E (aR (tl [1,2,3,4,5,12]) (fun(z:(Sl Z5))=>[(11,.a (.d (Sl.d 2 Z5.c (some f) z)))]) (fun z=>(tS H f 2 z)) (fun z=>Option.bind (qN a0 m p q (j.l.drop (g+1)) z) t=some r) ?_ ?_)
   ·intro aj u;refine Y1 ?_;refine ar fun ak G=>Y3 ?_;obtain⟨al,I,b⟩:=vO k b;refine S (ix Z7.c g I) (Y4 ?_);obtain⟨an,v,b⟩:=cM b;refine cO b (fun J b=>?_) (fun J b=>?_)
    ·refine ah.exit ?_;exact u _ s wA (ku v b:)
    refine sk G (Y4 ?_);obtain⟨ao,K,b⟩:=vO k b;refine Sd (ix Z7.c g K) (Y4 ?_);obtain⟨ap,L,b⟩:=vO k b;refine Sd (ix Z7.c g L) (Y3 ?_);obtain⟨au,M,b⟩:=qO rfl b;refine cH rfl rfl (VC M) (Y7 ?_);refine bx 13 _ rfl (kl [1,2,3,4,5,11,12,14]) ?_;refine Y4 ?_;refine cO b (fun N b=>?_) (fun N b=>?_)
    ·refine Y4 ?_;obtain⟨av,O,b⟩:=qO rfl b;refine S (dy O) (Y2 ?_);obtain⟨aw,P,b⟩:=vO k b;refine S (ix Z7.c g P) (Y2 ?_);obtain⟨ax,Q,b⟩:=qO rfl b;refine S (dy Q) (Y1 ?_);obtain⟨ay,R,b⟩:=qO rfl b;refine S (dy R) (Y2 ?_);obtain⟨U,W,b⟩:=qO rfl b;refine SH (am Z5.c (TK rfl) rfl (TK rfl) (TK rfl) W) ?_;refine Y2 ?_;exact u _ U wA (ku v b:)
    refine ah.skip ?_;exact u _ s wA (ku v b:)
   rintro X b;refine Y5 ?_;exact C _ (X,(g+1)) wA b (dl k)
  rw [qN] at b;have b:=ku B b;refine ah.exit ?_;obtain⟨az,Y,b⟩:=bW b;exact y _ s wA (ku Y b:)
 rintro aB b;refine Y4 ?_;refine ah.dV 10 rfl ?_;refine ry ?_;obtain rfl:=oJ b;refine bH.b9 H rfl ⟨rfl,rfl⟩ ?_;exact sy
def tq (a0:ai) (f:ag):List Z6->(Sl Z5)->Option ((Sl Z5))
 | [],b=>some b
 | g::j,b=>on (g) fun k=>(bV f.aa ([46]:Bs)).bind fun l=>on (g) fun m=>(bV l m.aa).bind fun p=>(u0 a0 k.az p ([40]:Bs) ([41]:Bs)).bind fun q=>(bf 24 b q).bind fun r=>tq a0 f (j) r
def pH (a0:ai):List ag->(Sl Z5)->Option ((Sl Z5))
 | [],f=>some f
 | g::j,f=>on (g) fun b=>Option.bind (tq a0 b b.an.l f) fun k=>on (k) fun m=>(u0 a0 b.ay b.aa ([46]:Bs) ([]:Bs)).bind fun p=>(bf 24 m p).bind fun q=>on (q) fun r=>pH a0 (j) r
def zo (a0:ai):Option (Sl Z5):=Option.bind (pH a0 a0.aj.l (Sl.nil:Sl Z5)) fun b=>on (b) fun f=>some f
theorem VD {a0 r}(b:zo a0=some r) (H:af) :AC Tryz.prog 27 [.agg (ai.c a0)] H (RT (.a (.d (Sl.d 2 Z5.c none r))) H):=by
 unfold zo at b;refine AC.oW 55 [.tmp 2] Tryz.call27 Tryz.func27 ?_;refine ah.tok 2 fun g ap=>?_;refine Y2 ?_;refine s0 (di (k':=2) rfl) rfl ?_;refine Y4 ?_;refine ah.fK 3 2 g rfl aA ?_;refine aR kN (fun(z:(Sl Z5))=>[(3,.a (.d (Sl.d 2 Z5.c (some g) z)))]) (fun z=>(tS H g 2 z)) (fun z=>(some z)=some r) ?_ ?_
 ·intro au C;refine Y4 ?_;obtain⟨k,E,b⟩:=bZ b;refine bD (tl [1]) (fun(z:(Sl Z5)×Nat)=>[(3,.a (.d (Sl.d 2 Z5.c (some g) z.1))),(4,vi z.2)]) (fun z=>(tS H g 2 z.1)) (fun z=>a0.aj.l.length-z.2) (fun z=>Option.bind (pH a0 (a0.aj.l.drop z.2) z.1) k=some r) ((Sl.nil:Sl Z5),0) b wA ?_;rintro ⟨p,m⟩ b av F;refine ar fun aw G=>Y4 ?_;refine aT ag.c a0.aj fun ax=>Y2 ?_
  refine ah.bL (fun l=>Option.bind (pH a0 l p) k=some r) b rfl (fun az v I b=>?_) (fun I b=>?_)
  ·rw [pH] at b;refine sk G (aR (tl [1,4]) (fun(z:(Sl Z5))=>[(3,.a (.d (Sl.d 2 Z5.c (some g) z)))]) (fun z=>(tS H g 2 z)) (fun z=>Option.bind (pH a0 (a0.aj.l.drop (m+1)) z) k=some r) ?_ ?_)
   ·intro aB J;refine Y5 ?_;obtain⟨j,K,b⟩:=vO v b;refine S (ix ag.c m K) (Y4 ?_);refine bx 5 _ rfl (kl [1,3,4]) ?_
    refine aR (tl [1,4,5]) (fun(z:(Sl Z5))=>[(3,.a (.d (Sl.d 2 Z5.c (some g) z)))]) (fun z=>(tS H g 2 z)) (fun z=>Option.bind ((u0 a0 j.ay j.aa ([46]:Bs) ([]:Bs)).bind fun w=>(bf 24 z w).bind fun q=>on (q) fun s=>pH a0 (a0.aj.l.drop (m+1)) s) k=some r) ?_ ?_
    ·intro aC L;refine Y4 ?_;obtain⟨y,M,b⟩:=cM b;refine bD (tl [1,4,5]) (fun(z:(Sl Z5)×Nat)=>[(3,.a (.d (Sl.d 2 Z5.c (some g) z.1))),(6,vi z.2)]) (fun z=>(tS H g 2 z.1)) (fun z=>j.an.l.length-z.2) (fun z=>Option.bind (tq a0 j (j.an.l.drop z.2) z.1) y=some r) (p,0) b wA ?_;rintro ⟨B,t⟩ b aD N;refine ar fun aE O=>Y4 ?_
     refine aT Z6.c j.an fun aF=>Y2 ?_;refine ah.bL (fun l=>Option.bind (tq a0 j l B) y=some r) b rfl (fun aG u P b=>?_) (fun P b=>?_)
     ·rw [tq] at b;refine sk O (ar fun aH Q=>Y1 ?_);refine ah.draw rfl ?_;refine Y5 ?_;obtain⟨aI,R,b⟩:=vO u b;refine Sd (ix Z6.c t R) (Y4 ?_);obtain⟨aK,U,b⟩:=qO rfl b;refine aN.s0 (Dj rfl rfl U) rfl ?_;refine Y3 ?_;obtain⟨aL,W,b⟩:=vO u b;refine Sd (ix Z6.c t W) (Y2 ?_);obtain⟨aM,X,b⟩:=qO rfl b;refine aN.s0 (Dj rfl rfl X) rfl ?_
      obtain⟨aP,Y,b⟩:=qO rfl b;refine cH rfl rfl (Mp Y) ?_;obtain⟨Z,ab,b⟩:=qO rfl b;refine aN.sH (iM (f:=Z5.c) (TK rfl) rfl (TK rfl) (TK rfl) ⟨_,rfl⟩ rfl rfl (by decide) rfl rfl rfl rfl aA rfl ab) rfl ?_;refine Y2 ?_;refine Q _ ?_;refine Y5 ?_;exact N _ (Z,(t+1)) wA b (dl u)
     rw [tq] at b;have b:=ku M b;refine ah.exit ?_;obtain⟨aQ,ad,b⟩:=gM b;exact L _ B wA (ku ad b:)
    rintro aU b;refine Y7 ?_;obtain⟨w,ae,b⟩:=qO rfl b;refine Sc rfl rfl (Mp ae) ?_;obtain⟨q,ak,b⟩:=qO rfl b;refine SH (am Z5.c (TK rfl) rfl (TK rfl) (TK rfl) ak) ?_;refine Y2 ?_;obtain⟨aV,al,b⟩:=gM b;exact J _ q wA (ku al b:)
   rintro s b;refine Y5 ?_;exact F _ (s,(m+1)) wA b (dl v)
  rw [pH] at b;have b:=ku E b;refine ah.exit ?_;obtain⟨aW,ao,b⟩:=bW b;exact C _ p wA (ku ao b:)
 rintro aX b;refine Y4 ?_;refine ah.dV 2 rfl ?_;refine ry ?_;obtain rfl:=oJ b;refine bH.b9 H rfl ⟨rfl,rfl⟩ ?_;exact sy
def wQ (a0:ai):Option (Sl Z5):=(yF a0 true).bind fun x3=>bif (decide ((0:Int)<((x3.l.length:Nat):Int))) then(some x3) else((zf a0).bind fun b=>(bf 24 x3 b).bind fun f=>(zo a0).bind fun g=>(bf 24 f g).bind fun j=>some j)
theorem Mq {a0 r}(b:wQ a0=some r) (H:af) :AC Tryz.prog 11 [.agg (ai.c a0)] H (RT (.a (.d (Sl.d 2 Z5.c none r))) H):=by
 unfold wQ at b;refine AC.oW 18 [.tmp 2] Tryz.call11 Tryz.func11 ?_;refine Y2 ?_;refine s0 (di (k':=2) rfl) rfl ?_;refine Y1 ?_;refine ah.tok 2 fun q s=>?_;refine Y2 ?_;obtain⟨x3,f,b⟩:=qT rfl b;refine sH (bS rfl rfl (QA f _ aA)) rfl ?_;refine Y2 ?_;refine ar fun t g=>Y2 ?_;refine aT Z5.c x3 fun u=>Y2 ?_;refine cE b (fun j b=>?_) (fun j b=>?_)
 ·refine Y4 ?_;refine ah.dV 2 rfl ?_;refine ry ?_;obtain rfl:=oJ b;refine bH.b9 H rfl ⟨rfl,rfl⟩ ?_;exact sy
 refine sk g (Y3 ?_);obtain⟨v,k,b⟩:=qT rfl b;refine Sc rfl rfl (Vh k) ?_;obtain⟨w,l,b⟩:=qT rfl b;refine SH (am Z5.c (TK rfl) rfl (TK rfl) (TK rfl) l) ?_;refine Y5 ?_;obtain⟨y,m,b⟩:=qT rfl b;refine Sc rfl rfl (VD m) ?_;obtain⟨z,p,b⟩:=qT rfl b;refine SH (am Z5.c (TK rfl) rfl (TK rfl) (TK rfl) p) ?_;refine Y2 ?_;refine ah.dV 2 rfl ?_;refine ry ?_
 obtain rfl:=oJ b;refine bH.b9 H rfl ⟨rfl,rfl⟩ ?_;exact sy
def tr :List Z6->Int->Option (Int)
 | [],b=>some b
 | f::g,b=>on (f) fun j=>on (f) fun k=>(cF ((j.az.l.length:Nat):Int) ((k.aM.l.length:Nat):Int)).bind fun m=>(cF b m).bind fun p=>tr  (g) p
def qQ :List ag->Int->Option (Int)
 | [],f=>some f
 | g::j,f=>on (g) fun b=>(cF (1:Int) ((b.an.l.length:Nat):Int)).bind fun k=>(cF k ((b.au.l.length:Nat):Int)).bind fun m=>(cF m ((b.ay.l.length:Nat):Int)).bind fun p=>(cF p ((b.aM.l.length:Nat):Int)).bind fun q=>(cF q ((b.aH.l.length:Nat):Int)).bind fun r=>(cF f r).bind fun s=>Option.bind (tr  b.an.l s) fun t=>on (t) fun u=>qQ  (j) u
def zj (a0:ai):Option Bool:=bif (decide ((70:Int)<((a0.aj.l.length:Nat):Int))) then(some true) else(Option.bind (qQ  a0.aj.l (0:Int)) fun b=>on (b) fun f=>some (decide ((1000:Int)<f)))
theorem VE {a0 r}(b:zj a0=some r) (H:af) :AC Tryz.prog 14 [.agg (ai.c a0)] H (RT (.a (.d (.bool r))) H):=by
 unfold zj at b;refine AC.oW 71 [.tmp 2] Tryz.call14 Tryz.func14 ?_;refine Y4 ?_;refine ar fun av w=>Y3 ?_;refine aT ag.c a0.aj fun aw=>Y2 ?_;refine cE b (fun y b=>?_) (fun y b=>?_)
 ·refine Y3 ?_;exact rt b
 refine sk w (Y3 ?_);refine aR kN (fun(z:Int)=>[(3,.a (.d (.int .i64 z)))]) (fun z=>H) (fun z=>(some (decide ((1000:Int)<z)))=some r) ?_ ?_
 ·intro ax B;refine Y4 ?_;obtain⟨j,C,b⟩:=bZ b;refine bD (tl [1]) (fun(z:Int×Nat)=>[(3,.a (.d (.int .i64 z.1))),(4,vi z.2)]) (fun z=>H) (fun z=>a0.aj.l.length-z.2) (fun z=>Option.bind (qQ  (a0.aj.l.drop z.2) z.1) j=some r) ((0:Int),0) b wA ?_;rintro ⟨q,k⟩ b aC E;refine ar fun aE F=>Y4 ?_;refine aT ag.c a0.aj fun aF=>Y2 ?_
  refine ah.bL (fun l=>Option.bind (qQ  l q) j=some r) b rfl (fun aG t G b=>?_) (fun G b=>?_)
  ·rw [qQ] at b;refine sk F (aR (tl [1,4]) (fun(z:Int)=>[(3,.a (.d (.int .i64 z)))]) (fun z=>H) (fun z=>Option.bind (qQ  (a0.aj.l.drop (k+1)) z) j=some r) ?_ ?_)
   ·intro aI I;refine Y5 ?_;obtain⟨g,J,b⟩:=vO t b;refine S (ix ag.c k J) (Y4 ?_);refine bx 5 _ rfl (kl [1,3,4]) ?_;refine Y4 ?_;refine aT Z6.c g.an fun aK=>?_;obtain⟨aL,K,b⟩:=qO rfl b;refine S (eC K) (Y2 ?_);refine aT Z8.c g.au fun aP=>?_;obtain⟨aQ,L,b⟩:=qO rfl b;refine S (eC L) (Y2 ?_);refine aT Z7.c g.ay fun aU=>?_
    obtain⟨aV,M,b⟩:=qO rfl b;refine S (eC M) (Y2 ?_);refine aT aD.c g.aM fun aW=>?_;obtain⟨aX,N,b⟩:=qO rfl b;refine S (eC N) (Y2 ?_);refine aT aB g.aH fun aY=>?_;obtain⟨aZ,O,b⟩:=qO rfl b;refine S (eC O) ?_;obtain⟨P,Q,b⟩:=qO rfl b;refine S (eC Q) (Y6 ?_);obtain⟨u,R,b⟩:=cM b
    refine bD (tl [1,4,5]) (fun(z:Int×Nat)=>[(3,.a (.d (.int .i64 z.1))),(6,vi z.2)]) (fun z=>H) (fun z=>g.an.l.length-z.2) (fun z=>Option.bind (tr  (g.an.l.drop z.2) z.1) u=some r) (P,0) b wA ?_;rintro ⟨v,m⟩ b a1 U;refine ar fun a2 W=>Y4 ?_;refine aT Z6.c g.an fun a3=>Y2 ?_
    refine ah.bL (fun l=>Option.bind (tr  l v) u=some r) b rfl (fun a4 p X b=>?_) (fun X b=>?_)
    ·rw [tr] at b;refine sk W (ar fun a5 Y=>Y1 ?_);refine ah.draw rfl ?_;refine Y4 ?_;obtain⟨Z,aa,b⟩:=vO p b;refine Sd (ix Z6.c m aa) (Y2 ?_);refine aN.s0 (rO (f:=Z7.c) (s:=Z.az) (TK rfl) rfl rfl rfl) rfl ?_;refine Y3 ?_;obtain⟨ab,ad,b⟩:=vO p b;refine Sd (ix Z6.c m ad) (Y2 ?_);refine aN.s0 (rO (f:=aD.c) (s:=ab.aM) (TK rfl) rfl rfl rfl) rfl ?_
     obtain⟨a6,ae,b⟩:=qO rfl b;refine aN.s0 (AI rfl rfl ae) rfl ?_;obtain⟨ak,al,b⟩:=qO rfl b;refine aN.s0 (AI rfl rfl al) rfl ?_;refine Y2 ?_;refine Y _ ?_;refine Y5 ?_;exact U _ (ak,(m+1)) wA b (dl p)
    rw [tr] at b;have b:=ku R b;refine ah.exit ?_;obtain⟨a7,am,b⟩:=gM b;exact I _ v wA (ku am b:)
   rintro ao b;refine Y5 ?_;exact E _ (ao,(k+1)) wA b (dl t)
  rw [qQ] at b;have b:=ku C b;refine ah.exit ?_;obtain⟨a8,ap,b⟩:=bW b;exact B _ q wA (ku ap b:)
 rintro a9 b;refine Y5 ?_;exact rt b
def sw (f:Z9->Option Int):List Z9->Int->Option (Int)
 | [],b=>some b
 | g::j,b=>on (g) fun k=>(f k).bind fun l=>(cF b l).bind fun m=>sw f (j) m
def nx:Nat->Z9->Option Int
 | 0,_=>none
 | n+1,a0=>Option.bind (sw (nx n) a0.aG.l (1:Int)) fun b=>on (b) fun f=>some f
def FB (n:Nat):Prop:=∀{a0:Z9}   {r:Int},nx n a0=some r->∀(H:af),AC Tryz.prog 146 [.agg (Z9.c a0)] H fun v h'=>v=.a (.d (.int .i64 r))/\h'=H
theorem VF (n:Nat) (m:FB (av:=av) n):FB (av:=av) (n+1):=by
 intro a0   r b H;rw [nx] at b;refine AC.oW 21 [.tmp 2] Tryz.call146 Tryz.func146 ?_;refine Y7 ?_;refine aR kN (fun(z:Int)=>[(3,.a (.d (.int .i64 z)))]) (fun z=>H) (fun z=>(some z)=some r) ?_ ?_
 ·intro F p;refine Y4 ?_;obtain⟨f,q,b⟩:=bZ b;refine bD (tl [1]) (fun(z:Int×Nat)=>[(3,.a (.d (.int .i64 z.1))),(4,vi z.2)]) (fun z=>H) (fun z=>a0.aG.l.length-z.2) (fun z=>Option.bind (sw (nx n) (a0.aG.l.drop z.2) z.1) f=some r) ((1:Int),0) b wA ?_;rintro ⟨g,j⟩ b G s;refine ar fun I t=>Y3 ?_
  refine s0 (dU (TK rfl) rfl rfl (congrArg (fun x=>some (A.d x)) (Z9.eN _))) rfl ?_;refine aT Z9.c a0.aG fun J=>Y2 ?_;refine ah.bL (fun l=>Option.bind (sw (nx n) l g) f=some r) b rfl (fun K k u b=>?_) (fun u b=>?_)
  ·rw [sw] at b;refine sk t (ar fun L v=>Y4 ?_);refine s0 (dU (TK rfl) rfl rfl (congrArg (fun x=>some (A.d x)) (Z9.eN _))) rfl ?_;refine Y1 ?_;obtain⟨M,w,b⟩:=vO k b;refine S (ix Z9.c j w) (Y1 ?_);obtain⟨N,y,b⟩:=qO rfl b;refine Sc rfl rfl (m y) ?_;obtain⟨B,C,b⟩:=qO rfl b;refine S (eC C) (Y2 ?_);refine v _ ?_;refine Y5 ?_
   exact s _ (B,(j+1)) wA b (dl k)
  rw [sw] at b;have b:=ku q b;refine ah.exit ?_;obtain⟨O,E,b⟩:=bW b;exact p _ g wA (ku E b:)
 rintro P b;refine Y4 ?_;exact rt b
theorem Mr:∀(n:Nat),(FB (av:=av) n)
 | 0=>fun b=>by first|cases b|(rw [nx] at b; cases b)
 | n+1=>VF n (Mr n)
def VG (a0:Z9):Option Int:=nx F0 a0
theorem VH {a0 r}(b:VG a0=some r) (H:af) :AC Tryz.prog 146 [.agg (Z9.c a0)] H fun v h'=>v=.a (.d (.int .i64 r))/\h'=H:=(Mr F0) b H 
def Iy (a0:Z9):Option Int:=nx F0 a0
def sx (f:Z9->Option Int):List Z9->Int->Option (Int)
 | [],b=>some b
 | j::k,b=>on (j) fun l=>(f l).bind fun g=>sx f (k) (if g>b then g else b)
def ny:Nat->Z9->Option Int
 | 0,_=>none
 | n+1,a0=>Option.bind (sx (ny n) a0.aG.l (0:Int)) fun b=>on (b) fun f=>(cF f (1:Int)).bind fun g=>some g
def FC (n:Nat):Prop:=∀{a0:Z9}   {r:Int},ny n a0=some r->∀(H:af),AC Tryz.prog 147 [.agg (Z9.c a0)] H fun v h'=>v=.a (.d (.int .i64 r))/\h'=H
theorem VI (n:Nat) (q:FC (av:=av) n):FC (av:=av) (n+1):=by
 intro a0   r b H;rw [ny] at b;refine AC.oW 22 [.tmp 2] Tryz.call147 Tryz.func147 ?_;refine Y7 ?_;refine aR kN (fun(z:Int)=>[(3,.a (.d (.int .i64 z)))]) (fun z=>H) (fun z=>((cF z (1:Int)).bind fun g=>some g)=some r) ?_ ?_
 ·intro G s;refine Y4 ?_;obtain⟨j,t,b⟩:=bZ b;refine bD (tl [1]) (fun(z:Int×Nat)=>[(3,.a (.d (.int .i64 z.1))),(4,vi z.2)]) (fun z=>H) (fun z=>a0.aG.l.length-z.2) (fun z=>Option.bind (sx (ny n) (a0.aG.l.drop z.2) z.1) j=some r) ((0:Int),0) b wA ?_;rintro ⟨f,k⟩ b I u;refine ar fun J v=>Y3 ?_
  refine s0 (dU (TK rfl) rfl rfl (congrArg (fun x=>some (A.d x)) (Z9.eN _))) rfl ?_;refine aT Z9.c a0.aG fun K=>Y2 ?_;refine ah.bL (fun l=>Option.bind (sx (ny n) l f) j=some r) b rfl (fun L m w b=>?_) (fun w b=>?_)
  ·rw [sx] at b;refine sk v (ar fun M y=>Y4 ?_);refine s0 (dU (TK rfl) rfl rfl (congrArg (fun x=>some (A.d x)) (Z9.eN _))) rfl ?_;refine Y1 ?_;obtain⟨N,B,b⟩:=vO m b;refine S (ix Z9.c k B) (Y1 ?_);obtain⟨p,C,b⟩:=qO rfl b;refine Sc rfl rfl (q C) (s0 (OK rfl rfl) rfl ?_);refine Y2 ?_;refine y _ ?_;refine Y5 ?_
   exact u _ ((if p>f then p else f),(k+1)) wA b (dl m)
  rw [sx] at b;have b:=ku t b;refine ah.exit ?_;obtain⟨O,E,b⟩:=bW b;exact s _ f wA (ku E b:)
 rintro P b;refine Y2 ?_;obtain⟨g,F,b⟩:=qT rfl b;refine S (eC F) (Y2 ?_);exact rt b
theorem Ms:∀(n:Nat),(FC (av:=av) n)
 | 0=>fun b=>by first|cases b|(rw [ny] at b; cases b)
 | n+1=>VI n (Ms n)
def VJ (a0:Z9):Option Int:=ny F0 a0
theorem VK {a0 r}(b:VJ a0=some r) (H:af) :AC Tryz.prog 147 [.agg (Z9.c a0)] H fun v h'=>v=.a (.d (.int .i64 r))/\h'=H:=(Ms F0) b H 
def Iz (a0:Z9):Option Int:=ny F0 a0
def sA (a0:(Sl Bs)) (f:Bs):Nat->Nat->Option (Unit ⊕ Bool)
 | 0,b=>some (Sum.inl ())
 | g+1,b=>on (f) fun j=>(a0.l[b]?).bind fun k=>bif ((j==k)) then(some (Sum.inr true)) else(sA a0 f (g) (b+1) )
def qu (a0:(Sl Bs)):List Bs->Nat->Option (Unit ⊕ Bool)
 | [],b=>some (Sum.inl ())
 | f::g,b=>Option.bind (sA a0 f b 0 ) fun j=>match j with|Sum.inl _=>(on (()) fun _=>qu a0 (g) (b+1) )|Sum.inr k=>(some (Sum.inr k))
def yS (a0:(Sl Bs)):Option Bool:=Option.bind (qu a0 a0.l 0 ) fun b=>match b with|Sum.inl _=>(on (()) fun _=>some false)|Sum.inr f=>(some f)
theorem VL {a0 w0 r}(b:yS a0=some r) (H:af) :AC Tryz.prog 205 [.d (Sl.d 1 aB w0 a0)] H (RT (.a (.d (.bool r))) H):=by
 unfold yS at b;refine AC.oW 25 [.tmp 2] Tryz.call205 Tryz.func205 ?_;refine Y3 ?_;refine aR kN (fun(z:Unit)=>[]) (fun z=>H) (fun z=>(some false)=some r) ?_ ?_
 ·intro N t;refine Y4 ?_;obtain⟨g,k,b⟩:=bZ b;refine bD (tl [0]) (fun(z:Nat)=>[(3,vi z)]) (fun z=>H) (fun z=>a0.l.length-z) (fun z=>Option.bind (qu a0 (a0.l.drop z) z ) g=some r) 0 b wA ?_;rintro f b O u;refine ar fun P v=>Y3 ?_;refine aT aB a0 fun Q=>Y2 ?_;refine ah.bL (fun l=>Option.bind (qu a0 l f ) g=some r) b rfl (fun m p w b=>?_) (fun w b=>?_)
  ·rw [qu] at b;refine sk v (aR (tl [0,3]) (fun(z:Unit)=>[]) (fun z=>H) (fun z=>Option.bind (qu a0 (a0.l.drop (f+1)) (f+1) ) g=some r) ?_ ?_)
   ·intro R y;refine Y5 ?_;obtain⟨q,s,b⟩:=cM b;refine bD (tl [0,3]) (fun(z:Nat)=>[(4,vi z)]) (fun z=>H) (fun z=>f-z) (fun z=>Option.bind (sA a0 m (f-z) z ) q=some r) 0 b wA ?_;rintro j b S B;refine ar fun U C=>Y5 ?_;refine ah.HK (fun l=>Option.bind (sA a0 m l j ) q=some r) b rfl (fun E F b=>?_) (fun F b=>?_)
    ·rw [sA] at b;refine sk C (ar fun W G=>Y4 ?_);obtain⟨X,I,b⟩:=vO p b;refine Sd (ix aB f I) (Y3 ?_);obtain⟨Y,J,b⟩:=qO rfl b;refine Sd (ix aB j J) (Y3 ?_);refine cO b (fun K b=>?_) (fun K b=>?_)
     ·refine Y3 ?_;refine ry ?_;have b:=ku s b;have b:=ku k b;obtain rfl:=oJ b;refine bH.b9 H rfl ⟨rfl,rfl⟩ ?_;exact(fun _ _ h=>h)
     refine sk G (Y5 ?_);exact B _ (j+1) wA b (dn E)
    rw [sA] at b;have b:=ku s b;refine ah.exit ?_;obtain⟨Z,L,b⟩:=gM b;exact y _ () wA (ku L b:)
   rintro _ b;refine Y5 ?_;exact u _ (f+1) wA b (dl p)
  rw [qu] at b;have b:=ku k b;refine ah.exit ?_;obtain⟨aa,M,b⟩:=bW b;exact t _ () wA (ku M b:)
 rintro _ b;refine Y3 ?_;exact rt b
def sC (a0:Z9) (b:Bool):Option Bool:=bif (decide (a0.ak=(0:Int))) then(some ((((decide (a0.bz=(0:Int)))&&((a0.br==([]:Bs))))&&(decide (((a0.aG.l.length:Nat):Int)=(0:Int))))&&(decide (((a0.aW.l.length:Nat):Int)=(0:Int))))) else(bif (decide (a0.ak=(1:Int))) then(some (((((decide (a0.bz=(0:Int)))||(decide (a0.bz=(1:Int))))&&((a0.br==([]:Bs))))&&(decide (((a0.aG.l.length:Nat):Int)=(0:Int))))&&(decide (((a0.aW.l.length:Nat):Int)=(0:Int))))) else(bif (decide (a0.ak=(2:Int))) then(some ((((a0.br==([]:Bs)))&&(decide (((a0.aG.l.length:Nat):Int)=(0:Int))))&&(decide (((a0.aW.l.length:Nat):Int)=(0:Int))))) else(bif (decide (a0.ak=(3:Int))) then(some (((decide (a0.bz=(0:Int)))&&(decide (((a0.aG.l.length:Nat):Int)=(0:Int))))&&(decide (((a0.aW.l.length:Nat):Int)=(0:Int))))) else(bif (decide (a0.ak=(4:Int))) then(on (bif (((decide (a0.bz=(0:Int)))&&(decide (((a0.aG.l.length:Nat):Int)=(0:Int))))&&(decide (((a0.aW.l.length:Nat):Int)=(0:Int)))) then ff a0.br else false) fun f=>some (((((((decide (a0.bz=(0:Int)))&&(decide (((a0.aG.l.length:Nat):Int)=(0:Int))))&&(decide (((a0.aW.l.length:Nat):Int)=(0:Int))))&&f)&&(!(a0.br==([116,114,117,101]:Bs))))&&(!(a0.br==([102,97,108,115,101]:Bs))))&&(!(a0.br==([110,117,108,108]:Bs))))) else(bif (decide (a0.ak=(5:Int))) then(some (((decide (a0.bz=(0:Int)))&&((a0.br==([]:Bs))))&&(decide (((a0.aW.l.length:Nat):Int)=(0:Int))))) else(bif (decide (a0.ak=(6:Int))) then(aY ((((decide (a0.bz=(0:Int)))&&((a0.br==([]:Bs))))&&(decide (((a0.aW.l.length:Nat):Int)=((a0.aG.l.length:Nat):Int))))) (yS a0.aW) false fun g=>some ((((decide (a0.bz=(0:Int)))&&((a0.br==([]:Bs))))&&(decide (((a0.aW.l.length:Nat):Int)=((a0.aG.l.length:Nat):Int))))&&(!g))) else(bif (decide (a0.ak=(7:Int))) then(on (bif (((b&&(decide (a0.bz=(0:Int))))&&(decide (((a0.aG.l.length:Nat):Int)=(0:Int))))&&(decide (((a0.aW.l.length:Nat):Int)=(0:Int)))) then ff a0.br else false) fun j=>some ((((b&&(decide (a0.bz=(0:Int))))&&(decide (((a0.aG.l.length:Nat):Int)=(0:Int))))&&(decide (((a0.aW.l.length:Nat):Int)=(0:Int))))&&j)) else(some false))))))))
theorem VM {a0 f r}(b:sC a0 f=some r) (H:af) :AC Tryz.prog 182 [.agg (Z9.c a0),.d (.bool f)] H (RT (.a (.d (.bool r))) H):=by
 unfold sC at b;refine AC.oW 193 [.tmp 4] Tryz.call182 Tryz.func182 ?_;refine Y4 ?_;refine ar fun y g=>Y9 ?_;refine cE b (fun j b=>?_) (fun j b=>?_)
 ·refine Y6 ?_;refine Gk 13 ?_;refine Gk 14 ?_;refine Y3 ?_;refine bG 18 rfl (fun hC=>dU (TK rfl) rfl rfl (congrArg (fun x=>some (A.d x)) (Z9.eN _))) ?_;refine bG 19 rfl (fun hC=>dK Z9.c a0.aG) ?_;refine Gk 20 ?_;refine Y3 ?_;refine Gk 24 ?_;refine bG 25 rfl (fun hC=>dK aB a0.aW) ?_;refine Gk 26 ?_;refine Y3 ?_;exact rt b
 refine Y4 ?_;refine cE b (fun k b=>?_) (fun k b=>?_)
 ·refine Y6 ?_;refine Gk 35 ?_;refine Gk 36 ?_;refine Y3 ?_;refine Gk 40 ?_;refine Gk 41 ?_;refine Y3 ?_;refine bG 45 rfl (fun hC=>dU (TK rfl) rfl rfl (congrArg (fun x=>some (A.d x)) (Z9.eN _))) ?_;refine bG 46 rfl (fun hC=>dK Z9.c a0.aG) ?_;refine Gk 47 ?_;refine Y3 ?_;refine Gk 51 ?_;refine bG 52 rfl (fun hC=>dK aB a0.aW) ?_;refine Gk 53 ?_;refine Y3 ?_;exact rt b
 refine Y4 ?_;refine cE b (fun l b=>?_) (fun l b=>?_)
 ·refine Y6 ?_;refine bG 62 rfl (fun hC=>dU (TK rfl) rfl rfl (congrArg (fun x=>some (A.d x)) (Z9.eN _))) ?_;refine bG 63 rfl (fun hC=>dK Z9.c a0.aG) ?_;refine Gk 64 ?_;refine Y3 ?_;refine Gk 68 ?_;refine bG 69 rfl (fun hC=>dK aB a0.aW) ?_;refine Gk 70 ?_;refine Y3 ?_;exact rt b
 refine Y4 ?_;refine cE b (fun m b=>?_) (fun m b=>?_)
 ·refine Y6 ?_;refine bG 79 rfl (fun hC=>dU (TK rfl) rfl rfl (congrArg (fun x=>some (A.d x)) (Z9.eN _))) ?_;refine bG 80 rfl (fun hC=>dK Z9.c a0.aG) ?_;refine Gk 81 ?_;refine Y3 ?_;refine Gk 85 ?_;refine bG 86 rfl (fun hC=>dK aB a0.aW) ?_;refine Gk 87 ?_;refine Y3 ?_;exact rt b
 refine Y4 ?_;refine cE b (fun p b=>?_) (fun p b=>?_)
 ·refine Y6 ?_;refine bG 96 rfl (fun hC=>dU (TK rfl) rfl rfl (congrArg (fun x=>some (A.d x)) (Z9.eN _))) ?_;refine bG 97 rfl (fun hC=>dK Z9.c a0.aG) ?_;refine Gk 98 ?_;refine Y3 ?_;refine Gk 102 ?_;refine bG 103 rfl (fun hC=>dK aB a0.aW) ?_;refine Gk 104 ?_;refine Y3 ?_;refine Gk 108 ?_;obtain⟨z,q,b⟩:=l7 (fun _=>rfl) b;refine dQ 109 rfl rfl rfl rfl rfl (fun hC=>mb (q hC)) ?_
  refine Y3 ?_;refine Gk 113 ?_;refine Gk 114 ?_;refine Y3 ?_;refine Gk 118 ?_;refine Gk 119 ?_;refine Y3 ?_;refine Gk 123 ?_;refine Gk 124 ?_;refine Y3 ?_;exact rt b
 refine Y4 ?_;refine cE b (fun s b=>?_) (fun s b=>?_)
 ·refine Y6 ?_;refine Gk 133 ?_;refine Gk 134 ?_;refine Y3 ?_;refine Gk 138 ?_;refine bG 139 rfl (fun hC=>dK aB a0.aW) ?_;refine Gk 140 ?_;refine Y3 ?_;exact rt b
 refine Y4 ?_;refine cE b (fun t b=>?_) (fun t b=>?_)
 ·refine Y6 ?_;refine Gk 149 ?_;refine Gk 150 ?_;refine Y3 ?_;refine Gk 154 ?_;refine bG 155 rfl (fun hC=>dK aB a0.aW) ?_;refine Y1 ?_;refine bG 157 rfl (fun hC=>dU (TK rfl) rfl rfl (congrArg (fun x=>some (A.d x)) (Z9.eN _))) ?_;refine bG 158 rfl (fun hC=>dK Z9.c a0.aG) ?_;refine G2 156 159 rfl rfl BI ?_;refine Y3 ?_;refine Gk 163 ?_;obtain⟨B,u,b⟩:=eE rfl b
  refine dQ 164 rfl rfl rfl rfl rfl (fun hC=>VL (u hC)) ?_;refine Gk 165 ?_;refine Y3 ?_;exact rt b
 refine Y4 ?_;refine cE b (fun v b=>?_) (fun v b=>?_)
 ·refine Y4 ?_;refine Gk 172 ?_;refine Gk 173 ?_;refine Y3 ?_;refine bG 177 rfl (fun hC=>dU (TK rfl) rfl rfl (congrArg (fun x=>some (A.d x)) (Z9.eN _))) ?_;refine bG 178 rfl (fun hC=>dK Z9.c a0.aG) ?_;refine Gk 179 ?_;refine Y3 ?_;refine Gk 183 ?_;refine bG 184 rfl (fun hC=>dK aB a0.aW) ?_;refine Gk 185 ?_;refine Y3 ?_;refine Gk 189 ?_;obtain⟨C,w,b⟩:=l7 (fun _=>rfl) b
  refine dQ 190 rfl rfl rfl rfl rfl (fun hC=>mb (w hC)) ?_;refine Y3 ?_;exact rt b
 refine sk g (Y3 ?_);exact rt b
def qL (b:Bool):List Bs->Unit ⊕ Bool
 | []=>Sum.inl ()
 | f::g=>on (bif b then f else([]:Bs)) fun j=>on (bif b then ff j else false) fun k=>bif (b&&(!k)) then(Sum.inr false) else(qL b (g) )
def kA (f:Bool) (b:Z9->Bool->Option Bool):List Z9->Option (Unit ⊕ Bool)
 | []=>some (Sum.inl ())
 | g::j=>on (g) fun k=>(b k f).bind fun l=>bif (!l) then(some (Sum.inr false)) else(kA f b (j) )
def iu:Nat->Z9->Bool->Option Bool
 | 0,_,_=>none
 | n+1,a0,b=>(sC a0 b).bind fun f=>bif (!f) then(some false) else(on (qL b a0.aW.l ) fun g=>match g with|Sum.inl _=>(on (()) fun _=>Option.bind (kA b (iu n) a0.aG.l ) fun j=>match j with|Sum.inl _=>(on (()) fun _=>some true)|Sum.inr k=>(some k))|Sum.inr m=>(some m))
def FD (n:Nat):Prop:=∀{a0:Z9}{a1:Bool}   {r:Bool},iu n a0 a1=some r->∀(H:af),AC Tryz.prog 148 [.agg (Z9.c a0),.d (.bool a1)] H fun v h'=>v=.a (.d (.bool r))/\h'=H
theorem VN (n:Nat) (u:FD (av:=av) n):FD (av:=av) (n+1):=by
 intro a0 f   r b H;rw [iu] at b;refine AC.oW 43 [.tmp 4] Tryz.call148 Tryz.func148 ?_;refine Y4 ?_;refine ar fun aa v=>Y3 ?_;obtain⟨ab,w,b⟩:=qT rfl b;refine Sc rfl rfl (VM w) (Y2 ?_);refine cE b (fun y b=>?_) (fun y b=>?_)
 ·refine Y3 ?_;exact rt b
 refine sk v (aR (tl [1,2]) (fun(z:Unit)=>[]) (fun z=>H) (fun z=>(Option.bind (kA f (iu n) a0.aG.l ) fun B=>match B with|Sum.inl _=>(on (()) fun _=>some true)|Sum.inr C=>(some C))=some r) ?_ ?_)
 ·intro ad E;refine Y4 ?_;obtain⟨g,j,b⟩:=bW b;refine bD (tl [1,2]) (fun(z:Nat)=>[(5,vi z)]) (fun z=>H) (fun z=>a0.aW.l.length-z) (fun z=>g (qL f (a0.aW.l.drop z) )=some r) 0 b wA ?_;rintro k b ae F;refine ar fun ag G=>Y4 ?_;refine aT aB a0.aW fun ai=>Y2 ?_;refine ah.bL (fun l=>g (qL f l )=some r) b rfl (fun aj m I b=>?_) (fun I b=>?_)
  ·rw [qL] at b;refine sk G (ar fun ak J=>Y5 ?_);refine Gk 20 ?_;refine Y1 ?_;obtain⟨al,K,b⟩:=jU (fun _=>m) b;refine e9 21 22 rfl rfl (fun hC=>ix aB k (K hC)) ?_;refine Gk 23 ?_;obtain⟨am,L,b⟩:=jU (fun _=>rfl) b;refine dQ 24 rfl rfl rfl rfl rfl (fun hC=>mb (L hC)) ?_;refine Gk 25 ?_;refine Y2 ?_;refine cP b (fun M b=>?_) (fun M b=>?_)
   ·refine Y3 ?_;exact rs (ku j b:)
   refine sk J (Y5 ?_);exact F _ (k+1) wA b (dl m)
  rw [qL] at b;have b:=ku j b;refine ah.exit ?_;obtain⟨an,N,b⟩:=bW b;exact E _ () wA (ku N b:)
 rintro _ b;refine aR kN (fun(z:Unit)=>[]) (fun z=>H) (fun z=>(some true)=some r) ?_ ?_
 ·intro ao O;refine Y4 ?_;obtain⟨p,q,b⟩:=bZ b;refine bD (tl [1,2]) (fun(z:Nat)=>[(6,vi z)]) (fun z=>H) (fun z=>a0.aG.l.length-z) (fun z=>Option.bind (kA f (iu n) (a0.aG.l.drop z) ) p=some r) 0 b wA ?_;rintro s b ap P;refine ar fun au Q=>Y3 ?_;refine s0 (dU (TK rfl) rfl rfl (congrArg (fun x=>some (A.d x)) (Z9.eN _))) rfl ?_
  refine aT Z9.c a0.aG fun aw=>Y2 ?_;refine ah.bL (fun l=>Option.bind (kA f (iu n) l ) p=some r) b rfl (fun ax t R b=>?_) (fun R b=>?_)
  ·rw [kA] at b;refine sk Q (ar fun ay U=>Y3 ?_);refine s0 (dU (TK rfl) rfl rfl (congrArg (fun x=>some (A.d x)) (Z9.eN _))) rfl ?_;refine Y1 ?_;obtain⟨az,W,b⟩:=vO t b;refine S (ix Z9.c s W) (Y2 ?_);obtain⟨aC,X,b⟩:=qO rfl b;refine Sc rfl rfl (u X) (Y2 ?_);refine cO b (fun Y b=>?_) (fun Y b=>?_)
   ·refine Y3 ?_;exact rs (ku q b:)
   refine sk U (Y5 ?_);exact P _ (s+1) wA b (dl t)
  rw [kA] at b;have b:=ku q b;refine ah.exit ?_;obtain⟨aD,Z,b⟩:=bW b;exact O _ () wA (ku Z b:)
 rintro _ b;refine Y3 ?_;exact rt b
theorem Mt:∀(n:Nat),(FD (av:=av) n)
 | 0=>fun b=>by first|cases b|(rw [iu] at b; cases b)
 | n+1=>VN n (Mt n)
def VO (a0:Z9) (b:Bool):Option Bool:=iu F0 a0 b
theorem VP {a0 b r}(f:VO a0 b=some r) (H:af) :AC Tryz.prog 148 [.agg (Z9.c a0),.d (.bool b)] H fun v h'=>v=.a (.d (.bool r))/\h'=H:=(Mt F0) f H 
def VQ (a0:Z9) (b:Bool):Option Bool:=iu F0 a0 b
def gN (a0:Z9):Option Bool:=(Iy a0).bind fun x3=>aY ((decide (x3<=(4096:Int)))) (Iz a0) (0:Int) fun b=>aY (((decide (x3<=(4096:Int)))&&(decide (b<=(24:Int))))) (VQ a0 true) false fun x5=>some (((decide (x3<=(4096:Int)))&&(decide (b<=(24:Int))))&&x5)
def FE (a0:Z9):Option Bool:=gN a0
theorem Mu {a0 r}(b:FE a0=some r) (H:af) :AC Tryz.prog 110 [.agg (Z9.c a0)] H (RT (.a (.d (.bool r))) H):=by
 unfold FE gN at b;refine AC.oW 15 [.tmp 2] Tryz.call110 Tryz.func110 ?_;refine Y6 ?_;obtain⟨x3,f,b⟩:=qT rfl b;refine Sc rfl rfl (VH f) (Y3 ?_);obtain⟨k,g,b⟩:=eE rfl b;refine dQ 7 rfl rfl rfl rfl rfl (fun hC=>VK (g hC)) ?_;refine Gk 8 ?_;refine Y3 ?_;obtain⟨x5,j,b⟩:=eE rfl b;refine dQ 12 rfl rfl rfl rfl rfl (fun hC=>VP (j hC)) ?_;refine Y3 ?_;exact rt b
def sD (b:Z9->Option Bool):List Z9->Option (Unit ⊕ Bool)
 | []=>some (Sum.inl ())
 | f::g=>on (f) fun j=>(b j).bind fun k=>bif (!k) then(some (Sum.inr false)) else(sD b (g) )
def oS:Nat->Z9->Option Bool
 | 0,_=>none
 | n+1,a0=>Option.bind (sD (oS n) a0.aG.l ) fun b=>match b with|Sum.inl _=>(on (()) fun _=>some (!decide (a0.ak=(7:Int))))|Sum.inr f=>(some f)
def FF (n:Nat):Prop:=∀{a0:Z9}   {r:Bool},oS n a0=some r->∀(H:af),AC Tryz.prog 111 [.agg (Z9.c a0)] H fun v h'=>v=.a (.d (.bool r))/\h'=H
theorem VR (n:Nat) (m:FF (av:=av) n):FF (av:=av) (n+1):=by
 intro a0   r b H;rw [oS] at b;refine AC.oW 21 [.tmp 2] Tryz.call111 Tryz.func111 ?_;refine Y4 ?_;refine aR (tl [1]) (fun(z:Unit)=>[]) (fun z=>H) (fun z=>(some (!decide (a0.ak=(7:Int))))=some r) ?_ ?_
 ·intro C p;refine Y4 ?_;obtain⟨f,g,b⟩:=bZ b;refine bD (tl [1]) (fun(z:Nat)=>[(3,vi z)]) (fun z=>H) (fun z=>a0.aG.l.length-z) (fun z=>Option.bind (sD (oS n) (a0.aG.l.drop z) ) f=some r) 0 b wA ?_;rintro j b E q;refine ar fun F s=>Y3 ?_;refine s0 (dU (TK rfl) rfl rfl (congrArg (fun x=>some (A.d x)) (Z9.eN _))) rfl ?_;refine aT Z9.c a0.aG fun G=>Y2 ?_
  refine ah.bL (fun l=>Option.bind (sD (oS n) l ) f=some r) b rfl (fun I k t b=>?_) (fun t b=>?_)
  ·rw [sD] at b;refine sk s (ar fun J u=>Y3 ?_);refine s0 (dU (TK rfl) rfl rfl (congrArg (fun x=>some (A.d x)) (Z9.eN _))) rfl ?_;refine Y1 ?_;obtain⟨K,v,b⟩:=vO k b;refine S (ix Z9.c j v) (Y1 ?_);obtain⟨L,w,b⟩:=qO rfl b;refine Sc rfl rfl (m w) (Y2 ?_);refine cO b (fun y b=>?_) (fun y b=>?_)
   ·refine Y3 ?_;exact rs (ku g b:)
   refine sk u (Y5 ?_);exact q _ (j+1) wA b (dl k)
  rw [sD] at b;have b:=ku g b;refine ah.exit ?_;obtain⟨M,B,b⟩:=bW b;exact p _ () wA (ku B b:)
 rintro _ b;refine Y6 ?_;exact rt b
theorem Mv:∀(n:Nat),(FF (av:=av) n)
 | 0=>fun b=>by first|cases b|(rw [oS] at b; cases b)
 | n+1=>VR n (Mv n)
def Mw (a0:Z9):Option Bool:=oS F0 a0
theorem Mx {a0 r}(b:Mw a0=some r) (H:af) :AC Tryz.prog 111 [.agg (Z9.c a0)] H fun v h'=>v=.a (.d (.bool r))/\h'=H:=(Mv F0) b H 
def D8 (a0:Z9):Option Bool:=oS F0 a0
def xg  :Option Bool:=some true
def xh (b:Nat) (f:Nat->Option Bool) :Option Bool:=f (b+1)
def xl (a0:(Sl aD)) (b:Nat) (k:Nat->Option Bool):Nat->Nat->Option Bool
 | 0,_=>none
 | p+1,f=>(a0.l[b]?).bind fun q=>bif (decide (((f:Nat):Int)<((q.az.l.length:Nat):Int))) then((a0.l[b]?).bind fun r=>(r.az.l[f]?).bind fun g=>(AZ g.aa).bind fun j=>aY (!(!j)) (FE g.ir) false fun m=>aY (!((!j)||(!m))) (Mw g.ir) false fun s=>bif (((!j)||(!m))||(!s)) then(some false) else((xl a0 b k p) (f+1))) else(xh b k )
def rj (a0:(Sl aD)) :Nat->Nat->Option Bool
 | 0,_=>none
 | g+1,b=>bif (decide (((b:Nat):Int)<((a0.l.length:Nat):Int))) then((a0.l[b]?).bind fun j=>(AZ j.aa).bind fun f=>aY (!(!f)) (a0.l[b]?) aD.zero fun k=>bif ((!f)||(decide ((16:Int)<((k.az.l.length:Nat):Int)))) then(some false) else(xl a0 b ((rj a0 g)) (Option.elim (a0.l[b]?) 1 (fun m=>m.az.l.length+1)) 0)) else(xg   )
def Cq (a0:(Sl aD)):Option Bool:=bif (decide ((16:Int)<((a0.l.length:Nat):Int))) then(some false) else(rj a0 (a0.l.length+1) 0)
theorem Cr {a0 w0 r}(b:Cq a0=some r) (H:af) :AC Tryz.prog 64 [.d (Sl.d 2 aD.c w0 a0)] H (RT (.a (.d (.bool r))) H):=by
 unfold Cq at b;refine AC.oW 65 [.tmp 2] Tryz.call64 Tryz.func64 ?_;refine Y3 ?_;refine ar fun W p=>Y2 ?_;refine aT aD.c a0 fun X=>Y2 ?_;refine cE b (fun q b=>?_) (fun q b=>?_)
 ·refine Y3 ?_;exact rt b
 refine sk p (aR kN (fun(z:Unit)=>[]) (fun z=>H) (fun z=>xg =some r) ?_ ?_)
 ·intro Y s;refine Y4 ?_;refine bD (tl [0]) (fun(z:Nat×Nat)=>[(3,vi z.2)]) (fun z=>H) (fun z=>z.1) (fun z=>rj a0 z.1 z.2=some r) ((a0.l.length+1),0) b wA ?_;rintro ⟨g,f⟩ b Z t;cases g with
  | zero=>cases b
  | succ g =>
    rw [rj] at b;refine ar fun aa u=>Y3 ?_;refine aT aD.c a0 fun ab=>Y2 ?_;refine cE b (fun v b=>?_) (fun v b=>?_)
    ·refine sk u (aR (tl [0,3]) (fun(z:Unit)=>[]) (fun z=>H) (fun z=>xh f ((rj a0 g)) =some r) ?_ ?_)
     ·intro ad w;refine Y1 ?_;refine ar fun ae y=>Y3 ?_;obtain⟨ag,B,b⟩:=bO b;refine S (ix aD.c f B) (Y2 ?_);obtain⟨ai,C,b⟩:=bO b;refine Sc rfl rfl (mb C) (Y4 ?_);obtain⟨E,F,b⟩:=gO b;refine e9 23 24 rfl rfl (fun hC=>ix aD.c f (F hC)) ?_;refine Gk 25 ?_;refine Gk 26 ?_;refine bG 27 rfl (fun hC=>dK bU.c E.az) ?_;refine Gk 28 ?_;refine Y2 ?_
      refine cE b (fun G b=>?_) (fun G b=>?_)
      ·refine Y3 ?_;exact rt b
      refine sk y (Y4 ?_);refine bD (tl [0,3]) (fun(z:Nat×Nat)=>[(4,vi z.2)]) (fun z=>H) (fun z=>z.1) (fun z=>xl a0 f ((rj a0 g)) z.1 z.2=some r) ((Option.elim (a0.l[f]?) 1 (fun j=>j.az.l.length+1)),0) b wA ?_;rintro ⟨k,m⟩ b aj I;cases k with
      | zero=>cases b
      | succ k =>
        rw [xl] at b;refine ar fun ak J=>Y4 ?_;obtain⟨j,K,b⟩:=bO b;refine S (ix aD.c f K) (Y2 ?_);refine aT bU.c j.az fun al=>Y2 ?_;refine cE b (fun L b=>?_) (fun L b=>?_)
        ·refine sk J (ar fun am M=>Y4 ?_);obtain⟨an,N,b⟩:=bO b;refine S (ix aD.c f N) (Y3 ?_);obtain⟨ao,O,b⟩:=bO b;refine S (ix bU.c m O) (Y4 ?_);refine bx 5 _ rfl (kl [0,3,4]) ?_;refine Y3 ?_;obtain⟨ap,P,b⟩:=bO b;refine Sc rfl rfl (mb P) (Y3 ?_);refine Gk 54 ?_;obtain⟨au,Q,b⟩:=gO b;refine dQ 55 rfl rfl rfl rfl rfl (fun hC=>Mu (Q hC)) ?_;refine Gk 56 ?_
         refine Y3 ?_;refine Gk 60 ?_;obtain⟨av,R,b⟩:=gO b;refine dQ 61 rfl rfl rfl rfl rfl (fun hC=>Mx (R hC)) ?_;refine Gk 62 ?_;refine Y2 ?_;refine cE b (fun U b=>?_) (fun U b=>?_)
         ·refine Y3 ?_;exact rt b
         refine sk M (Y5 ?_);exact I _ (k,(m+1)) wA b (nS _)
        refine ah.exit ?_;exact w _ () wA b
     rintro _ b;unfold xh at b;refine Y5 ?_;exact t _ (g,(f+1)) wA b (nS _)
    refine ah.exit ?_;exact s _ () wA b
 rintro _ b;unfold xg at b;refine Y3 ?_;exact rt b
def uF (g:aD):List bU->Option (Unit ⊕ Bool)
 | []=>some (Sum.inl ())
 | k::l=>on (g) fun p=>on (k) fun b=>on (ff b.aa) fun f=>aY (!(!f)) (gN b.ir) false fun j=>aY (!((!f)||(!j))) (D8 b.ir) false fun m=>bif (((!f)||(!j))||(!m)) then(some (Sum.inr false)) else(uF g (l) )
theorem VS {a0:Sl aD}{k:Nat}{p:Nat->Option Bool}{j:aD}(q:a0.l[k]?=some j) (m:(Unit ⊕ Bool)->Option Bool) (s:∀(b:Nat) (f:Nat),xh k p =m (Sum.inl ())) (t:∀e:Bool,some e=m (Sum.inr e)):∀(b:Nat) (f:Nat),(0<b/\j.az.l.length<f+b)->xl a0 k p b f=Option.bind (uF j (j.az.l.drop f) ) m:=by
 intro b;induction b with
 | zero=>intro f hn; exact absurd hn.1 (by omega)
 | succ b u =>
  intro f hn;rw [xl];refine Q.preB q fun v w=>?_;subst w;by_cases bl:f<v.az.l.length
  ·obtain⟨y,g⟩:=Qa bl;rw [Q.nr g,uF];refine QT bl ?_;refine Q.qd q fun z r=>?_;refine Q.qd (by first|exact g|(simp only [r]; exact g)|(simp only [r] at g ⊢; exact g)) fun B C=>?_;refine Q.qd rfl fun E F=>?_;refine Q.uu rfl fun G=>?_;refine Q.uu rfl fun H=>?_;refine Q.oG ?_ ?_
   ·all_goals exact t _
   all_goals exact u _ ⟨by omega,by omega⟩
  rw [dL (by omega),uF];refine QF bl ?_;exact s b f
def uG :List aD->Option (Unit ⊕ Bool)
 | []=>some (Sum.inl ())
 | b::g=>on (b) fun j=>on (ff j.aa) fun f=>on (bif !(!f) then b else aD.zero) fun k=>bif ((!f)||(decide ((16:Int)<((k.az.l.length:Nat):Int)))) then(some (Sum.inr false)) else(Option.bind (uF b b.az.l ) fun m=>match m with|Sum.inl _=>(on (()) fun _=>uG  (g) )|Sum.inr p=>(some (Sum.inr p)))
theorem VT {a0:Sl aD}(j:(Unit ⊕ Bool)->Option Bool) (p:∀(b:Nat) (f:Nat),xg   =j (Sum.inl ())) (k:∀e:Bool,some e=j (Sum.inr e)):∀(b:Nat) (f:Nat),(0<b/\a0.l.length<f+b)->rj a0 b f=Option.bind (uG  (a0.l.drop f) ) j:=by
 intro b;induction b with
 | zero=>intro f hn; exact absurd hn.1 (by omega)
 | succ b q =>
  intro f hn;rw [rj];by_cases bl:f<a0.l.length
  ·obtain⟨v,g⟩:=Qa bl;rw [Q.nr g,uG];refine QT bl ?_;refine Q.qd g fun w y=>?_;refine Q.qd rfl fun z B=>?_;refine Q.DM g fun C E=>?_;refine Q.oG ?_ ?_
   ·all_goals exact k _
   refine Q.yo fun r m=>?_;refine VS g r ?_ ?_ _ _ ⟨by rw [g]; exact Nat.succ_pos _,by rw [g]; simp only [Option.elim]; omega⟩
   ·intro F G;refine Qe (m _) ?_;try dsimp only
    refine Q.ym fun s t=>?_;have u:xh f (rj a0 b) =s ():=by
     refine Qe (t _) ?_;unfold xh;all_goals exact q _ ⟨by omega,by omega⟩
    all_goals exact u
   intro H;refine Qe (m _) ?_;try dsimp only
   all_goals exact k _
  rw [dL (by omega),uG];refine QF bl ?_;exact p b f
def sF (a0:(Sl aD)):Option Bool:=bif (decide ((16:Int)<((a0.l.length:Nat):Int))) then(some false) else(Option.bind (uG  a0.l ) fun b=>match b with|Sum.inl _=>(on (()) fun _=>some true)|Sum.inr f=>(some f))
theorem Cs (a0:(Sl aD)):Cq a0=sF a0:=by
 unfold Cq sF;refine Qs ?_;refine Q.oG ?_ ?_
 ·all_goals rfl
 refine Q.yo fun f b=>?_;refine VT  f ?_ ?_ _ _ ⟨Nat.succ_pos _,by omega⟩
 ·intro l m;refine Qe (b _) ?_;try dsimp only
  refine Q.ym fun g j=>?_;have k:xg  =g ():=by
   refine Qe (j _) ?_;unfold xg;all_goals rfl
  all_goals exact k
 intro p;refine Qe (b _) ?_;try dsimp only
 all_goals rfl
def sv (a0:aL):List Int->Nat->Option (Unit ⊕ Bool)
 | [],b=>some (Sum.inl ())
 | f::k,b=>on (f) fun j=>on (bif (!decide (j=(1:Int))) then f else(0:Int)) fun m=>bif ((!decide (j=(1:Int)))&&(!decide (m=(2:Int)))) then(some (Sum.inr false)) else(on (bif (decide ((0:Int)<((b:Nat):Int))) then f else(0:Int)) fun g=>aY (((decide ((0:Int)<((b:Nat):Int)))&&(decide (g=(1:Int))))) (rL ((b:Nat):Int) (1:Int)) (0:Int) fun p=>aY (((decide ((0:Int)<((b:Nat):Int)))&&(decide (g=(1:Int))))) (dh a0.aK.l p) (0:Int) fun q=>bif (((decide ((0:Int)<((b:Nat):Int)))&&(decide (g=(1:Int))))&&(decide (q=(1:Int)))) then(some (Sum.inr false)) else(sv a0 (k) (b+1) ))
def wq (a0:aL):Option Bool:=on (ff a0.aa) fun b=>bif ((!b)||(decide ((24:Int)<((a0.aK.l.length:Nat):Int)))) then(some false) else(Option.bind (sv a0 a0.aK.l 0 ) fun f=>match f with|Sum.inl _=>(on (()) fun _=>some true)|Sum.inr g=>(some g))
theorem My {a0 r}(b:wq a0=some r) (H:af) :AC Tryz.prog 112 [.agg (aL.c a0)] H (RT (.a (.d (.bool r))) H):=by
 unfold wq at b;refine AC.oW 54 [.tmp 2] Tryz.call112 Tryz.func112 ?_;refine Y4 ?_;refine ar fun M p=>Y3 ?_;obtain⟨N,q,b⟩:=vT rfl b;refine Sc rfl rfl (mb q) (Y3 ?_);refine Gk 9 ?_;refine bG 10 rfl (fun hC=>dK (bI .i64) a0.aK) ?_;refine Gk 11 ?_;refine Y2 ?_;refine cE b (fun s b=>?_) (fun s b=>?_)
 ·refine Y3 ?_;exact rt b
 refine sk p (aR kN (fun(z:Unit)=>[]) (fun z=>H) (fun z=>(some true)=some r) ?_ ?_)
 ·intro O t;refine Y4 ?_;obtain⟨m,k,b⟩:=bZ b;refine bD (tl [1]) (fun(z:Nat)=>[(3,vi z)]) (fun z=>H) (fun z=>a0.aK.l.length-z) (fun z=>Option.bind (sv a0 (a0.aK.l.drop z) z ) m=some r) 0 b wA ?_;rintro g b P u;refine ar fun Q v=>Y4 ?_;refine aT (bI .i64) a0.aK fun R=>Y2 ?_
  refine ah.bL (fun l=>Option.bind (sv a0 l g ) m=some r) b rfl (fun U j w b=>?_) (fun w b=>?_)
  ·rw [sv] at b;refine sk v (ar fun W y=>Y1 ?_);refine ar fun X B=>Y4 ?_;obtain⟨Y,C,b⟩:=vO j b;refine S (ix (bI .i64) g C) (Y4 ?_);refine Gk 28 ?_;refine Y1 ?_;obtain⟨Z,E,b⟩:=ej (fun _=>j) b;refine e9 29 30 rfl rfl (fun hC=>ix (bI .i64) g (E hC)) ?_;refine Gk 31 ?_;refine Gk 32 ?_;refine Y2 ?_;refine cO b (fun F b=>?_) (fun F b=>?_)
   ·refine Y3 ?_;exact rs (ku k b:)
   refine sk B (Y5 ?_);refine Gk 38 ?_;refine Y1 ?_;obtain⟨aa,G,b⟩:=ej (fun _=>j) b;refine e9 39 40 rfl rfl (fun hC=>ix (bI .i64) g (G hC)) ?_;refine Gk 41 ?_;refine Gk 42 ?_;refine Y3 ?_;refine Gk 46 ?_;refine Y1 ?_;obtain⟨ab,I,b⟩:=e8 rfl b;refine bG 48 rfl (fun hC=>HV (I hC)) ?_;obtain⟨ad,J,b⟩:=e8 rfl b
   refine e9 47 49 rfl rfl (fun hC=>iZ (f:=(bI .i64)) (TK rfl) rfl (TK rfl) rfl rfl rfl (J hC)) ?_;refine Gk 50 ?_;refine Gk 51 ?_;refine Y2 ?_;refine cO b (fun K b=>?_) (fun K b=>?_)
   ·refine Y3 ?_;exact rs (ku k b:)
   refine sk y (Y5 ?_);exact u _ (g+1) wA b (dl j)
  rw [sv] at b;have b:=ku k b;refine ah.exit ?_;obtain⟨ae,L,b⟩:=bW b;exact t _ () wA (ku L b:)
 rintro _ b;refine Y3 ?_;exact rt b
end Go.Proofs
