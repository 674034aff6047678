import Derived.Test.YtdlobimnfmjonaaGreatDoorV2
set_option maxRecDepth 100000
set_option maxHeartbeats 2000000
set_option linter.unusedVariables false
set_option linter.unusedSimpArgs false
namespace Go.Proofs
open Go Go.Ab
open aK an ag dJ fN
attribute [local irreducible] aK aN ag an
variable {au:bS}
def jD (m:aL) (p:Int) (g:Z3->aL->Z9->Int->Option (Z9×Z3)):List Z9->Z3->Z9->Option ((Z3×Z9))
 | [],f,b=>some (f,b)
 | q::r,f,b=>bif (decide (f.dh=(0:Int))) then(on (q) fun s=>(cN p (1:Int)).bind fun t=>(g f m s t).bind fun j=>(bh 80 b.aB (⟨false,[j.1]⟩:Sl Z9)).bind fun k=>jD m p g (r) j.2 (Z9.mk b.ai b.bA b.bp k.nl k.l b.aR)) else(some (f,b))
def jQ (f:ah):List Bs->Z3->Z3
 | [],b=>b
 | g::j,b=>on (g) fun k=>on (iZ f.aF k) fun l=>on (bif (!l.2) then(on (fq b (22:Int)) fun m=>m) else(b)) fun p=>jQ f (j) p
def g_ (w:ah) (y:Z9) (p:Int) (q:Z3->aL->Z9->Int->Option (Z9×Z3)) (r:Z3->aL->Z9->Int->Option (Z9×Z3)):List Z7->Nat->Z3->Z9->Option ((Z3×Z9))
 | [],k,b,f=>some (b,f)
 | z::B,k,b,f=>bif (decide (b.dh=(0:Int))) then(on (z) fun g=>(xl w.aF ((k:Nat):Int)).bind fun C=>Option.bind (bif C then(some (b,f)) else((nj y g.aa).bind fun j=>aZ (j.2) (q7 b j.1) false fun E=>on (fun(F:Z3) (G:Z9)=>(bh 16 f.aR (⟨false,[g.aa]⟩:Sl Bs)).bind fun H=>(bh 80 f.aB (⟨false,[G]⟩:Sl Z9)).bind fun s=>some (F,(Z9.mk f.ai f.bA f.bp s.nl s.l H))) fun m=>bif (j.2&&(!E)) then((cN p (1:Int)).bind fun I=>(q b g.av j.1 I).bind fun t=>m t.2 t.1) else(bif g.ck then((cN p (1:Int)).bind fun J=>(r b g.av g.cR J).bind fun u=>m u.2 u.1) else(on (iz g.av) fun K=>bif K then(on (fq b (22:Int)) fun L=>m L Z9.zero) else(some (b,f)))))) fun v=>g_ w y p q r (B) (k+1) v.1 v.2) else(some (b,f))
mutual
def eM:Nat->Z3->aL->Z9->Int->Option (Z9×Z3)
 | 0,_,_,_,_=>none
 | n+1,a0,f,l,j=>on (jN a0.Fd f.aa) fun w=>bif (!w) then(on (fq a0 (10:Int)) fun x7=>some ((Z9.mk 0 0 [] true [] Sl.nil),x7)) else(on (fun(y:Z3) (g:Z9)=>(l8 y j).bind fun b=>bif (!decide (b.dh=(0:Int))) then(some ((Z9.mk 0 0 [] true [] Sl.nil),b)) else(bif (decide (g.ai=(0:Int))) then(on (iz f) fun z=>on (bif z then(on (fq b (23:Int)) fun B=>B) else(b)) fun C=>some ((Z9.mk 0 0 [] true [] Sl.nil),C)) else((mQ f).bind fun m=>bif m.2 then(((lq n) b m.1 g j).bind fun p=>some (p.1,p.2)) else(on (jq f.aa) fun E=>bif E then((lg b f.aa g).bind fun q=>some (q.1,q.2)) else(on (eR b.Fd f.aa) fun k=>bif (decide (k.1.ai=(4:Int))) then(on (lp b k.1 g) fun r=>some (r.1,r.2)) else(((lu n) b k.1 g j).bind fun s=>some (s.1,s.2))))))) fun t=>bif (a0.fK&&(decide (l.ai=(7:Int)))) then((nj a0.eY l.bp).bind fun u=>bif (!decide (u.1.ai=(0:Int))) then((E2 a0 u.1 j).bind fun v=>some (v.1,v.2)) else(t a0 (Z9.mk 0 0 [] true [] Sl.nil))) else(t a0 l))
def lq:Nat->Z3->aL->Z9->Int->Option (Z9×Z3)
 | 0,_,_,_,_=>none
 | n+1,a0,k,b,m=>on (bif (decide (b.ai=(5:Int))) then(b.aB) else((⟨false,[b]⟩:Sl Z9))) fun j=>Option.bind (jD k m (eM n) j.l a0 (Z9.mk 5 0 [] true [] Sl.nil)) fun f=>on ((f.1,f.2)) fun g=>some (g.2,g.1)
def lu:Nat->Z3->ah->Z9->Int->Option (Z9×Z3)
 | 0,_,_,_,_=>none
 | n+1,a0,b,f,q=>bif (!decide (f.ai=(6:Int))) then(on (fq a0 (23:Int)) fun k=>some ((Z9.mk 0 0 [] true [] Sl.nil),k)) else(on (jQ b f.aR.l a0) fun m=>on (m) fun p=>Option.bind (g_ b f q (eM n) (iB n) b.aF.l 0 p (Z9.mk 6 0 [] true [] Sl.nil)) fun g=>on ((g.1,g.2)) fun j=>some (j.2,j.1))
def iB:Nat->Z3->aL->Z9->Int->Option (Z9×Z3)
 | 0,_,_,_,_=>none
 | n+1,a0,b,f,g=>((eM n) (Z3.mk a0.Fd (Z9.mk 0 0 [] true [] Sl.nil) true a0.kL a0.dh) b f g).bind fun x5=>some (x5.1,(Z3.mk x5.2.Fd a0.eY a0.fK x5.2.kL x5.2.dh))
end
def xJ (n:Nat):Prop:=∀{a0:Z3}{a1:aL}{a2:Z9}{a3:Int}  {c0:Nat}{r:(Z9×Z3)},eM n a0 a1 a2 a3=some r->∀(H:af) (b7:H c0=some (.cells (Z3.c a0))),At 178 [.d (.ptr c0 0),.agg (aL.c a1),.agg (Z9.c a2),.d (.int .i64 a3)] H (RT (.a (.agg (Z9.c r.1))) ((cS H c0 (Z3.c r.2))))
def xK (n:Nat):Prop:=∀{a0:Z3}{a1:aL}{a2:Z9}{a3:Int}  {c0:Nat}{r:(Z9×Z3)},lq n a0 a1 a2 a3=some r->∀(H:af) (b7:H c0=some (.cells (Z3.c a0))),At 199 [.d (.ptr c0 0),.agg (aL.c a1),.agg (Z9.c a2),.d (.int .i64 a3)] H (RT (.a (.agg (Z9.c r.1))) ((cS H c0 (Z3.c r.2))))
def xL (n:Nat):Prop:=∀{a0:Z3}{a1:ah}{a2:Z9}{a3:Int}  {c0:Nat}{r:(Z9×Z3)},lu n a0 a1 a2 a3=some r->∀(H:af) (b7:H c0=some (.cells (Z3.c a0))),At 202 [.d (.ptr c0 0),.agg (ah.c a1),.agg (Z9.c a2),.d (.int .i64 a3)] H (RT (.a (.agg (Z9.c r.1))) ((cS H c0 (Z3.c r.2))))
def xM (n:Nat):Prop:=∀{a0:Z3}{a1:aL}{a2:Z9}{a3:Int}  {c0:Nat}{r:(Z9×Z3)},iB n a0 a1 a2 a3=some r->∀(H:af) (b7:H c0=some (.cells (Z3.c a0))),At 213 [.d (.ptr c0 0),.agg (aL.c a1),.agg (Z9.c a2),.d (.int .i64 a3)] H (RT (.a (.agg (Z9.c r.1))) ((cS H c0 (Z3.c r.2))))
theorem VN (n:Nat) (ap:xJ (au:=au) n) (m:xK (au:=au) n) (p:xL (au:=au) n) (aq:xM (au:=au) n):xJ (au:=au) (n+1):=by
 intro a0 aV ao aW  c0 r b H b7;rw [eM] at b;refine AC.oW 111 [.cell 8 72] Tryz.call178 Tryz.func178 ?_;refine hz (cS H c0 (Z3.c a0)) (Y2 ?_);refine sL (wu rfl) rfl ?_;refine Y2 ?_;refine ar fun av q=>Y7 ?_;obtain⟨aw,s,b⟩:=dQ b;refine cF rfl rfl (Ef s) (Y2 ?_);refine cE b (fun t b=>?_) (fun t b=>?_)
 ·refine Y2 ?_;obtain⟨x7,u,b⟩:=dQ b;refine sH (bV rfl rfl (rJ u _ az)) rfl ?_;refine hq (cS H c0 (Z3.c x7)) (Y5 ?_);exact rt b
 refine sk q ?_;obtain⟨v,w,b⟩:=mT b;refine dS (tl [0,3,5,6,8]) (fun(z:Z3×Z9×Z9)=>[]) (fun z=>[Z9.c z.2.1,Z9.c z.2.2]) (fun z=>(cS H c0 (Z3.c z.1))) (fun z=>(v z.1 z.2.1)=some r) ?_ ?_
 ·intro ax f;refine Y7 ?_;refine gC rfl rfl (fun hC=>v_ (k:=31) rfl (nL (TK rfl) rfl rfl rfl rfl)) rfl ?_;refine Gk 32 ?_;refine Y2 ?_;refine cE b (fun y b=>?_) (fun y b=>?_)
  ·refine Y7 ?_;obtain⟨ay,B,b⟩:=aX b;refine cF rfl rfl (FY B) (Y7 ?_);refine bC 9 _ rfl (kl [0,3,5,6,8]) ?_;refine ar fun aA C=>Y5 ?_;refine cE b (fun E b=>?_) (fun E b=>?_)
   ·refine Y4 ?_;obtain⟨F,G,b⟩:=aX b;refine sH (bV rfl rfl (VH G _ az)) rfl ?_;refine hq (cS H c0 (Z3.c F.2)) (Y2 ?_);exact rt b
   refine sk C (Y4 ?_);exact f _ (a0,(Z9.mk 0 0 [] true [] Sl.nil),Z9.zero) wA b
  refine ag.skip ?_;exact f _ (a0,ao,Z9.zero) wA b
 rintro ⟨aB,aC,aD⟩ b;rw [w] at b;refine Y3 ?_;obtain⟨g,I,b⟩:=aX b;refine sH (bV rfl rfl (MN I _ az)) rfl ?_;refine hq (cS H c0 (Z3.c g)) (Y1 ?_);refine ar fun aE J=>Y7 ?_;refine cE b (fun K b=>?_) (fun K b=>?_)
 ·refine Y4 ?_;exact rt b
 refine sk J (ar fun aF L=>Y5 ?_);refine cE b (fun M b=>?_) (fun M b=>?_)
 ·refine aO (tl [8]) (fun(z:Z3)=>[]) (fun z=>(cS H c0 (Z3.c z))) (fun z=>(some ((Z9.mk 0 0 [] true [] Sl.nil),z))=some r) ?_ ?_
  ·intro aG j;refine Y2 ?_;obtain⟨aH,N,b⟩:=dQ b;refine Sc rfl rfl (sM N) (Y1 ?_);obtain⟨aI,l,b⟩:=bW b;refine cP b (fun O b=>?_) (fun O b=>?_)
   ·refine Y2 ?_;obtain⟨P,Q,b⟩:=ff b;refine sH (bV rfl rfl (rJ Q _ az)) rfl ?_;refine Y1 ?_;exact j _ P wA (ku l b:)
   refine ag.skip ?_;exact j _ g wA (ku l b:)
  rintro aJ b;refine Y4 ?_;exact rt b
 refine sk L (ar fun aL R=>Y2 ?_);obtain⟨aM,S,b⟩:=aX b;refine Sc rfl rfl (FV S) (Y7 ?_);refine bC 11 _ rfl (kl [0,3,5,6,8,12]) ?_;refine Y3 ?_;refine cE b (fun U b=>?_) (fun U b=>?_)
 ·refine Y5 ?_;obtain⟨W,X,b⟩:=aX b;refine sH (bV rfl rfl (m X _ az)) rfl ?_;refine hq (cS H c0 (Z3.c W.2)) (Y2 ?_);exact rt b
 refine sk R (ar fun aP Y=>Y3 ?_);obtain⟨aR,Z,b⟩:=dQ b;refine Sc rfl rfl (wy Z) (Y1 ?_);refine cE b (fun aa b=>?_) (fun aa b=>?_)
 ·refine Y5 ?_;obtain⟨ab,ad,b⟩:=aX b;refine sH (bV rfl rfl (VK ad _ az)) rfl ?_;refine hq (cS H c0 (Z3.c ab.2)) (Y2 ?_);exact rt b
 refine sk Y (Y7 ?_);obtain⟨aS,ae,b⟩:=dQ b;refine cF rfl rfl (mD ae) (Y7 ?_);refine bC 13 _ rfl (kl [0,3,6,8]) ?_;refine ar fun aU ah=>Y5 ?_;refine cE b (fun ai b=>?_) (fun ai b=>?_)
 ·refine Y4 ?_;obtain⟨aj,ak,b⟩:=dQ b;refine sH (bV rfl rfl (VL ak _ az)) rfl ?_;refine hq (cS H c0 (Z3.c aj.2)) (Y2 ?_);exact rt b
 refine sk ah (Y5 ?_);obtain⟨al,am,b⟩:=aX b;refine sH (bV rfl rfl (p am _ az)) rfl ?_;refine hq (cS H c0 (Z3.c al.2)) (Y2 ?_);exact rt b
theorem VO (n:Nat) (I:xJ (au:=au) n) (ae:xK (au:=au) n) (ah:xL (au:=au) n) (aj:xM (au:=au) n):xK (au:=au) (n+1):=by
 intro a0 E F G  c0 r b H b7;rw [lq] at b;refine AC.oW 50 [.cell 8 72] Tryz.call199 Tryz.func199 ?_;refine hz (cS H c0 (Z3.c a0)) (pq ?_);obtain⟨J,K,b⟩:=bW b;refine aO (tl [0,3,5,8]) (fun(z:(Sl Z9))=>[(9,.a (.d (Sl.d 5 Z9.c none z)))]) (fun z=>(cS H c0 (Z3.c a0))) (fun z=>J z=some r) ?_ ?_
 ·intro ak q;refine Y5 ?_;refine cP b (fun L b=>?_) (fun L b=>?_)
  ·refine Y2 ?_;refine s0 (dK (TK rfl) rfl rfl (Z9.ej _)) rfl ?_;refine Y2 ?_;exact q _ F.aB wA b
  refine ag.skip ?_;exact q _ (⟨false,[F]⟩:Sl Z9) wA b
 rintro k b;have b:=ku K b;refine Y3 ?_;refine aK.tok 5 fun g u=>?_;obtain⟨al,u⟩:=af.eA u;refine aK.cU 1 _ rfl (fun j w cs hh hx=>tok_cell 3 5 5 hh (t:=g) az hx rfl) ?_;refine Y1 ?_;refine aK.cU 1 _ rfl (fun j w cs hh hx=>tok_cell 3 5 5 hh (t:=g) az hx rfl) ?_;refine Y1 ?_
 refine dS (tl [8,10]) (fun(z:Z3×Z9)=>[]) (fun z=>[Z9.c Z9.zero,((bL .i64) z.2.ai++(bL .i64) z.2.bA++aG z.2.bp++[Sl.d 5 Z9.c (some g) z.2.aB]++(fun s=>[Sl.d 1 aG none s]) z.2.aR)]) (fun z=>(tS (cS H c0 (Z3.c z.1)) g 5 z.2.aB)) (fun z=>(some (z.2,z.1))=some r) ?_ ?_
 ·intro ao M;refine Y4 ?_;obtain⟨m,N,b⟩:=bZ b
  refine gz (tl [0,3,5,8,9,10]) (fun(z:Nat×Z3×Z9)=>[(11,vi z.1)]) (fun z=>[Z9.c Z9.zero,((bL .i64) z.2.2.ai++(bL .i64) z.2.2.bA++aG z.2.2.bp++[Sl.d 5 Z9.c (some g) z.2.2.aB]++(fun s=>[Sl.d 1 aG none s]) z.2.2.aR)]) (fun z=>(tS (cS H c0 (Z3.c z.2.1)) g 5 z.2.2.aB)) (fun z=>k.l.length-z.1) (fun z=>Option.bind (jD E G (eM n) (k.l.drop z.1) z.2.1 z.2.2) m=some r) (0,a0,(Z9.mk 5 0 [] true [] Sl.nil)) b wA ?_
  rintro ⟨v,p,f⟩ b ap O;refine ar fun aq P=>Y3 ?_;refine aU Z9.c k fun av=>Y3 ?_;refine Gk 26 ?_;refine bI 27 rfl (fun hC=>iK (TK rfl) rfl rfl (TK rfl) rfl rfl) ?_;refine bI 28 rfl (fun hC=>eD (TK rfl) rfl rfl az rfl) ?_;refine Gk 29 ?_;refine Y2 ?_
  refine ag.yR (fun l=>Option.bind (jD E G (eM n) l p f) m=some r) (Option.bind (some (p,f)) m=some r) b (fun b=>by rw [jD] at b; exact b) (fun _ Q b=>by rw [jD] at b; rw [Q] at b; exact b) rfl rfl (fun aw y B R b=>?_) (fun B b=>?_)
  ·rw [jD] at b;rw [R,cond_true] at b;have ax:=oD (and_left B);refine sk P (ar fun ay S=>Y6 ?_);obtain⟨aA,U,b⟩:=vO y b;refine Sd (ix Z9.c v U) (Y2 ?_);obtain⟨aC,W,b⟩:=aJ b;refine aN.s0 (A6 rfl rfl W) rfl ?_;obtain⟨X,Y,b⟩:=aJ b;refine aN.sH (bV rfl rfl (I Y _ az)) rfl ?_;refine Y3 ?_
   refine bC 12 _ rfl (kl [0,3,5,8,9,10,11]) ?_;refine Y5 ?_;obtain⟨C,Z,b⟩:=aJ b;refine SH (am Z9.c (TK rfl) rfl (TK rfl) (TK rfl) Z) ?_;refine Y3 ?_;refine S _ ?_;refine Y5 ?_;exact O _ ((v+1),X.2,(Z9.mk f.ai f.bA f.bp C.nl C.l f.aR)) wA b (dl y)
  have b:=ku N b;refine ag.exit ?_;obtain⟨aD,aa,b⟩:=bW b;exact M _ (p,f) wA (ku aa b:)
 rintro ⟨aE,ab⟩ b;refine ar fun aF ad=>ag.cU 1 _ rfl (fun j w cs hh hx=>kH 3 hx rfl) ?_;refine ag.cU 1 (Z9.c ab) rfl (fun j w cs hh hx=>by rw [Z9.mC]; exact hx) ?_;refine Y4 ?_;refine ad _ ?_;exact rs b
theorem VP (n:Nat) (Y:xJ (au:=au) n) (bk:xK (au:=au) n) (bl:xL (au:=au) n) (Z:xM (au:=au) n):xL (au:=au) (n+1):=by
 intro a0 g p B  c0 r b H b7;rw [lu] at b;refine AC.oW 123 [.cell 8 72] Tryz.call202 Tryz.func202 ?_;refine hz (cS H c0 (Z3.c a0)) (Y5 ?_);refine ar fun bm ab=>Y5 ?_;refine cE b (fun ad b=>?_) (fun ad b=>?_)
 ·refine Y2 ?_;obtain⟨ae,ah,b⟩:=dQ b;refine sH (bV rfl rfl (rJ ah _ az)) rfl ?_;refine hq (cS H c0 (Z3.c ae)) (Y5 ?_);exact rt b
 refine sk ab (aO (tl [0,3,5,6,8]) (fun(z:Z3)=>[]) (fun z=>(cS H c0 (Z3.c z))) (fun z=>(Option.bind (g_ g p B (eM n) (iB n) g.aF.l 0 z (Z9.mk 6 0 [] true [] Sl.nil)) fun L=>on ((L.1,L.2)) fun M=>some (M.2,M.1))=some r) ?_ ?_)
 ·intro bn aj;refine Y4 ?_;obtain⟨C,ak,b⟩:=bW b;refine bz (tl [0,3,5,6,8]) (fun(z:Nat×Z3)=>[(9,vi z.1)]) (fun z=>(cS H c0 (Z3.c z.2))) (fun z=>p.aR.l.length-z.1) (fun z=>C (jQ g (p.aR.l.drop z.1) z.2)=some r) (0,a0) b wA ?_;rintro ⟨E,F⟩ b bo al;refine ar fun bq ao=>Y4 ?_;refine aU aG p.aR fun br=>Y2 ?_
  refine ag.bJ (fun l=>C (jQ g l F)=some r) b rfl (fun bs N ap b=>?_) (fun ap b=>?_)
  ·rw [jQ] at b;refine sk ao (aO (tl [0,3,5,6,8,9]) (fun(z:Z3)=>[]) (fun z=>(cS H c0 (Z3.c z))) (fun z=>C (jQ g (p.aR.l.drop (E+1)) z)=some r) ?_ ?_)
   ·intro bt O;refine Y7 ?_;obtain⟨bu,aq,b⟩:=vP N b;refine Sd (ix aG E aq) (Y1 ?_);obtain⟨bv,av,b⟩:=ff b;refine cF rfl rfl (y8 av) (Y7 ?_);refine bC 10 _ rfl (kl [0,3,5,6,8,9,11]) ?_;refine Y4 ?_;obtain⟨bw,P,b⟩:=dU b;refine cP b (fun aw b=>?_) (fun aw b=>?_)
    ·refine Y2 ?_;obtain⟨ax,ay,b⟩:=ff b;refine sH (bV rfl rfl (rJ ay _ az)) rfl ?_;refine Y1 ?_;exact O _ ax wA (ku P b:)
    refine ag.skip ?_;exact O _ F wA (ku P b:)
   rintro aA b;refine Y5 ?_;exact al _ ((E+1),aA) wA b (dl N)
  rw [jQ] at b;have b:=ku ak b;refine ag.exit ?_;obtain⟨bx,aC,b⟩:=bW b;exact aj _ F wA (ku aC b:)
 rintro aD b;refine Y3 ?_;refine aK.tok 5 fun k Q=>?_;obtain⟨bB,Q⟩:=af.eA Q;refine aK.cU 1 _ rfl (fun j w cs hh hx=>tok_cell 3 5 5 hh (t:=k) az hx rfl) ?_;refine aK.tok 1 fun m v=>?_;obtain⟨bD,v⟩:=af.eA v;obtain⟨bF,v⟩:=af.eA v
 refine aK.cU 1 _ rfl (fun j w cs hh hx=>tok_cell 4 1 1 hh (t:=m) az hx rfl) ?_;refine Y1 ?_;refine aK.cU 1 _ rfl (fun j w cs hh hx=>tok_cell 3 5 5 hh (t:=k) az hx rfl) ?_;refine aK.cU 1 _ rfl (fun j w cs hh hx=>tok_cell 4 1 1 hh (t:=m) az hx rfl) ?_;refine Y1 ?_
 refine dS (tl [8,12]) (fun(z:Z3×Z9)=>[]) (fun z=>[Z9.c Z9.zero,((bL .i64) z.2.ai++(bL .i64) z.2.bA++aG z.2.bp++[Sl.d 5 Z9.c (some k) z.2.aB]++[Sl.d 1 aG (some m) z.2.aR])]) (fun z=>((tS (cS H c0 (Z3.c z.1)) k 5 z.2.aB).set m (some (.tok 1 z.2.aR.l.length)))) (fun z=>(some (z.2,z.1))=some r) ?_ ?_
 ·intro bG aE;refine Y4 ?_;obtain⟨y,aH,b⟩:=bZ b
  refine gz (tl [0,3,5,6,8,12]) (fun(z:Nat×Z3×Z9)=>[(13,vi z.1)]) (fun z=>[Z9.c Z9.zero,((bL .i64) z.2.2.ai++(bL .i64) z.2.2.bA++aG z.2.2.bp++[Sl.d 5 Z9.c (some k) z.2.2.aB]++[Sl.d 1 aG (some m) z.2.2.aR])]) (fun z=>((tS (cS H c0 (Z3.c z.2.1)) k 5 z.2.2.aB).set m (some (.tok 1 z.2.2.aR.l.length)))) (fun z=>g.aF.l.length-z.1) (fun z=>Option.bind (g_ g p B (eM n) (iB n) (g.aF.l.drop z.1) z.1 z.2.1 z.2.2) y=some r) (0,aD,(Z9.mk 6 0 [] true [] Sl.nil)) b wA ?_
  rintro ⟨q,s,f⟩ b bH aI;refine ar fun bK aL=>Y4 ?_;refine aU Z7.c g.aF fun bM=>Y3 ?_;refine Gk 53 ?_;refine bI 54 rfl (fun hC=>iK (TK rfl) rfl rfl (TK rfl) rfl rfl) ?_;refine bI 55 rfl (fun hC=>eD (TK rfl) rfl rfl az rfl) ?_;refine Gk 56 ?_;refine Y2 ?_
  refine ag.yR (fun l=>Option.bind (g_ g p B (eM n) (iB n) l q s f) y=some r) (Option.bind (some (s,f)) y=some r) b (fun b=>by rw [g_] at b; exact b) (fun _ aM b=>by rw [g_] at b; rw [aM] at b; exact b) rfl rfl (fun bN R U aP b=>?_) (fun U b=>?_)
  ·rw [g_] at b;rw [aP,cond_true] at b;have bO:=oD (and_left U);refine sk aL ?_
   refine dS (tl [0,3,5,6,8,12,13]) (fun(z:Z3×Z9)=>[]) (fun z=>[Z9.c Z9.zero,((bL .i64) z.2.ai++(bL .i64) z.2.bA++aG z.2.bp++[Sl.d 5 Z9.c (some k) z.2.aB]++[Sl.d 1 aG (some m) z.2.aR])]) (fun z=>((tS (cS H c0 (Z3.c z.1)) k 5 z.2.aB).set m (some (.tok 1 z.2.aR.l.length)))) (fun z=>Option.bind (g_ g p B (eM n) (iB n) (g.aF.l.drop (q+1)) (q+1) z.1 z.2) y=some r) ?_ ?_
   ·intro bP G;refine Y5 ?_;obtain⟨aS,aV,b⟩:=vO R b;refine S (ix Z7.c q aV) (Y4 ?_);refine bC 14 _ rfl (kl [0,3,5,6,8,12,13]) ?_;refine ar fun bQ aW=>Y4 ?_;obtain⟨bR,aX,b⟩:=aJ b;refine Sc rfl rfl (VM aX) (Y1 ?_);obtain⟨aY,I,b⟩:=dA b;refine cO b (fun aZ b=>?_) (fun aZ b=>?_)
    ·refine ag.exit ?_;exact G _ (s,f) wA (ku I b:)
    refine sk aW (Y4 ?_);obtain⟨bS,a1,b⟩:=aJ b;refine Sc rfl rfl (FY a1) (Y7 ?_);refine bC 15 _ rfl (kl [0,3,5,6,8,12,13,14,16]) ?_;refine Y3 ?_
    refine dS (tl [0,3,5,6,8,12,13,14,17]) (fun(z:Z3×Z9)=>[]) (fun z=>[Z9.c Z9.zero,((bL .i64) f.ai++(bL .i64) f.bA++aG f.bp++[Sl.d 5 Z9.c (some k) f.aB]++[Sl.d 1 aG (some m) f.aR]),Z9.c z.2]) (fun z=>((tS (cS H c0 (Z3.c z.1)) k 5 f.aB).set m (some (.tok 1 f.aR.l.length)))) (fun z=>Option.bind ((bh 16 f.aR (⟨false,[aS.aa]⟩:Sl Bs)).bind fun J=>(bh 80 f.aB (⟨false,[z.2]⟩:Sl Z9)).bind fun u=>some (z.1,(Z9.mk f.ai f.bA f.bp u.nl u.l J))) aY=some r) ?_ ?_
    ·intro bT K;refine Y6 ?_;obtain⟨bX,a2,b⟩:=fz b;refine fJ 80 81 rfl rfl (fun hC=>eE rfl rfl (MM (a2 hC) _ az)) ?_;refine Gk 82 ?_;refine Y3 ?_;obtain⟨_,rfl,b⟩:=mO b;refine cO b (fun a3 b=>?_) (fun a3 b=>?_)
     ·refine Y6 ?_;obtain⟨bY,a4,b⟩:=aJ b;refine S (fp a4) ?_;obtain⟨W,a5,b⟩:=aJ b;refine sH (bV rfl rfl (Y a5 _ az)) rfl ?_;refine Y2 ?_;exact K _ (W.2,W.1) wA b
     refine Y5 ?_;refine cO b (fun a6 b=>?_) (fun a6 b=>?_)
     ·refine Y7 ?_;obtain⟨b0,a7,b⟩:=aJ b;refine S (fp a7) ?_;obtain⟨X,a8,b⟩:=aJ b;refine sH (bV rfl rfl (Z a8 _ az)) rfl ?_;refine Y2 ?_;exact K _ (X.2,X.1) wA b
     refine Y3 ?_;obtain⟨b1,a9,b⟩:=eG b;refine Sc rfl rfl (sM a9) (Y2 ?_);refine cO b (fun a_ b=>?_) (fun a_ b=>?_)
     ·refine Y2 ?_;obtain⟨a',ba,b⟩:=eG b;refine sH (bV rfl rfl (rJ ba _ az)) rfl ?_;refine Y1 ?_;exact K _ (a',Z9.zero) wA b
     refine ag.exit ?_;exact G _ (s,f) wA (ku I b:)
    rintro ⟨bb,b2⟩ b;refine Y6 ?_;obtain⟨J,bc,b⟩:=aJ b;refine SH (am aG (TK rfl) rfl (TK rfl) (TK rfl) bc) ?_;refine Y8 ?_;obtain⟨u,bd,b⟩:=aJ b;refine SH (am Z9.c (TK rfl) rfl (TK rfl) (TK rfl) bd) ?_;refine Y3 ?_;exact G _ (bb,(Z9.mk f.ai f.bA f.bp u.nl u.l J)) wA (ku I b:)
   rintro ⟨be,bf⟩ b;refine Y5 ?_;exact aI _ ((q+1),be,bf) wA b (dl R)
  have b:=ku aH b;refine ag.exit ?_;obtain⟨b3,bg,b⟩:=bW b;exact aE _ (s,f) wA (ku bg b:)
 rintro ⟨b4,bi⟩ b;refine ar fun b5 bj=>ag.cU 1 _ rfl (fun j w cs hh hx=>kH 3 hx rfl) ?_;refine ag.cU 1 _ rfl (fun j w cs hh hx=>kH 4 hx rfl) ?_;refine ag.cU 1 (Z9.c bi) rfl (fun j w cs hh hx=>by rw [Z9.mC]; exact hx) ?_;refine Y4 ?_;refine bj _ ?_;exact rs b
theorem VQ (n:Nat) (f:xJ (au:=au) n) (j:xK (au:=au) n) (k:xL (au:=au) n) (l:xM (au:=au) n):xM (au:=au) (n+1):=by
 intro a0 m p q  c0 r b H b7;rw [iB] at b;refine AC.oW 41 [.cell 8 72] Tryz.call213 Tryz.func213 ?_;refine hz (cS H c0 (Z3.c a0)) (Qt ?_);refine bC 9 _ rfl (kl [0,3,5,6,8,10]) ?_;refine Y6 ?_;refine dB (uD (TK rfl) rfl rfl az rfl (Nat.le_of_ble_eq_true rfl) rfl rfl) rfl rfl ?_;refine Y2 ?_
 refine dB (gw (TK rfl) rfl rfl az rfl (by repeat (first|exact bE.zero|apply bE.succ))) rfl rfl ?_;refine Y6 ?_;obtain⟨x5,g,b⟩:=aX b;refine sH (bV rfl rfl (f g _ az)) rfl ?_;refine Y3 ?_;refine bC 11 _ rfl (kl [0,8,9,10]) ?_;refine Y7 ?_;refine dB (uD (TK rfl) rfl rfl az rfl (Nat.le_of_ble_eq_true rfl) rfl rfl) rfl rfl ?_;refine Y2 ?_
 refine dB (gw (TK rfl) rfl rfl az rfl (by repeat (first|exact bE.zero|apply bE.succ))) rfl rfl ?_;refine hq (H.set c0 (some (.cells (Z3.c (Z3.mk x5.2.Fd a0.eY a0.fK x5.2.kL x5.2.dh))))) (Y5 ?_);exact rt b
theorem jH:∀(n:Nat),(xJ (au:=au) n)/\(xK (au:=au) n)/\(xL (au:=au) n)/\(xM (au:=au) n)
 | 0=>⟨fun b=>by first|cases b|(rw [eM] at b; cases b),fun b=>by first|cases b|(rw [lq] at b; cases b),fun b=>by first|cases b|(rw [lu] at b; cases b),fun b=>by first|cases b|(rw [iB] at b; cases b)⟩
 | n+1=>⟨VN n (jH n).1 (jH n).2.1 (jH n).2.2.1 (jH n).2.2.2,VO n (jH n).1 (jH n).2.1 (jH n).2.2.1 (jH n).2.2.2,VP n (jH n).1 (jH n).2.1 (jH n).2.2.1 (jH n).2.2.2,VQ n (jH n).1 (jH n).2.1 (jH n).2.2.1 (jH n).2.2.2⟩
def VR (a0:Z3) (a1:aL) (a2:Z9) (a3:Int):Option (Z9×Z3):=eM F0 a0 a1 a2 a3
theorem VS {a0 b f g c0 r}(j:VR a0 b f g=some r) (H:af) (b7:H c0=some (.cells (Z3.c a0))):At 178 [.d (.ptr c0 0),.agg (aL.c b),.agg (Z9.c f),.d (.int .i64 g)] H (RT (.a (.agg (Z9.c r.1))) ((cS H c0 (Z3.c r.2)))):=(jH F0).1 j H b7
def B7 (a0:Z3) (b:aL) (f:Z9) (g:Int):Option (Z9×Z3):=eM F0 a0 b f g
def rf (a0:Z3) (b:aL) (f:Z9):Option (Z9×Int×Z3):=(B7 a0 b f (1:Int)).bind fun x3=>bif (!decide (x3.2.dh=(0:Int))) then(some ((Z9.mk 0 0 [] true [] Sl.nil),x3.2.dh,x3.2)) else(some (x3.1,(0:Int),x3.2))
theorem VT {a0 f g c0 r}(b:rf a0 f g=some r) (H:af) (b7:H c0=some (.cells (Z3.c a0))):At 143 [.d (.ptr c0 0),.agg (aL.c f),.agg (Z9.c g)] H (RT (.cL [.agg (Z9.c r.1),.d (.int .i64 r.2.1)]) ((cS H c0 (Z3.c r.2.2)))):=by
 unfold rf at b;refine AC.oW 24 [.cell 6 72,.tmp 7] Tryz.call143 Tryz.func143 ?_;refine hz (cS H c0 (Z3.c a0)) (pq ?_);obtain⟨x3,j,b⟩:=aX b;refine sH (bV rfl rfl (VS j _ az)) rfl ?_;refine hq (cS H c0 (Z3.c x3.2)) (Y3 ?_);refine bC 8 _ rfl (kl [0,6]) ?_;refine ar fun m k=>Y7 ?_;refine cE b (fun l b=>?_) (fun l b=>?_)
 ·refine Y9 ?_;exact rt b
 refine sk k (Y5 ?_);exact rt b
def oE (a0:ak) (g:aL) (j:Z9) (k:Z9):Option (Z9×Int):=on (jN a0 g.aa) fun b=>aZ (b) (q7 (Z3.mk a0 k true 0 0) j) false fun x7=>bif (b&&x7) then(some ((Z9.mk 0 0 [] true [] Sl.nil),(8:Int))) else((rf (Z3.mk a0 k true 0 0) g j).bind fun f=>some (f.1,f.2.1))
theorem VU {a0 f g j r}(b:oE a0 f g j=some r) (H:af) :At 105 [.agg (ak.c a0),.agg (aL.c f),.agg (Z9.c g),.agg (Z9.c j)] H (RT (.cL [.agg (Z9.c r.1),.d (.int .i64 r.2)]) H):=by
 unfold oE at b;refine AC.oW 31 [.cell 8 72,.tmp 9] Tryz.call105 Tryz.func105 ?_;refine yU ?_;refine sE (dm.yD rfl) rfl (fun _ _ _ ⟨v,w,k,l,m⟩=>?_);subst k l m;refine Y2 ?_;refine ar fun y p=>Y4 ?_;obtain⟨z,q,b⟩:=dQ b;refine Sc rfl rfl (Ef q) (Y3 ?_);obtain⟨x7,s,b⟩:=eB b;refine fJ 20 21 rfl rfl (fun hC=>eE rfl rfl (MM (s hC) _ az)) ?_
 refine Y2 ?_;refine cE b (fun t b=>?_) (fun t b=>?_)
 ·refine Y5 ?_;refine ry ?_;obtain rfl:=oJ b;refine bU.cH H rfl ⟨rfl,rfl⟩ ?_;exact sy
 refine sk p (Y4 ?_);obtain⟨B,u,b⟩:=aX b;refine sH (bV rfl rfl (VT u _ az)) rfl ?_;refine Y5 ?_;refine ry ?_;obtain rfl:=oJ b;refine bU.cH H rfl ⟨rfl,rfl⟩ ?_;exact sy
def rp (a0:ak) (g:Bs) (j:Bs) (k:Bs):List Z7->(Sl Z5)->Option ((Sl Z5))
 | [],b=>some b
 | f::l,b=>on (f) fun m=>Option.bind (bif (!m.ck) then(some b) else(on (f) fun p=>on (f) fun q=>(oE a0 p.av q.cR (Z9.mk 0 0 [] true [] Sl.nil)).bind fun r=>bif (!decide (r.2=(0:Int))) then((a_ g j).bind fun s=>on (f) fun t=>(a_ s t.aa).bind fun u=>(a_ u k).bind fun v=>(bh 24 b (⟨false,[(Z5.mk 23 v)]⟩:Sl Z5)).bind fun w=>some w) else(some b))) fun y=>rp a0 g j k (l) y
def vn (a0:ak) (g:(Sl Z7)) (j:Bs) (k:Bs) (m:Bs):Option (Sl Z5):=Option.bind (rp a0 j k m g.l (Sl.nil:Sl Z5)) fun b=>on (b) fun f=>some f
theorem MR {a0 j m p q w r}(b:vn a0 j m p q=some r) (H:af) :At 60 [.agg (ak.c a0),.d (Sl.d 10 Z7.c w j),.d (.str m),.d (.str p),.d (.str q)] H (RT (.a (.d (Sl.d 2 Z5.c none r))) H):=by
 unfold vn at b;refine AC.oW 61 [.tmp 10] Tryz.call60 Tryz.func60 ?_;refine ag.tok 2 fun f Z=>?_;refine Y2 ?_;refine s0 (dM (k':=2) rfl) rfl ?_;refine Y4 ?_;refine ag.fe 11 2 f rfl az ?_;refine aO kN (fun(z:(Sl Z5))=>[(11,.a (.d (Sl.d 2 Z5.c (some f) z)))]) (fun z=>(tS H f 2 z)) (fun z=>(some z)=some r) ?_ ?_
 ·intro aa y;refine Y4 ?_;obtain⟨t,B,b⟩:=bZ b;refine bz (tl [1,2,3,4,5]) (fun(z:(Sl Z5)×Nat)=>[(11,.a (.d (Sl.d 2 Z5.c (some f) z.1))),(12,vi z.2)]) (fun z=>(tS H f 2 z.1)) (fun z=>j.l.length-z.2) (fun z=>Option.bind (rp a0 m p q (j.l.drop z.2) z.1) t=some r) ((Sl.nil:Sl Z5),0) b wA ?_;rintro ⟨s,g⟩ b ab C;refine ar fun ad E=>Y3 ?_;refine aU Z7.c j fun ae=>Y2 ?_
  refine ag.bJ (fun l=>Option.bind (rp a0 m p q l s) t=some r) b rfl (fun ah k F b=>?_) (fun F b=>?_)
  ·rw [rp] at b;refine sk E (aO (tl [1,2,3,4,5,12]) (fun(z:(Sl Z5))=>[(11,.a (.d (Sl.d 2 Z5.c (some f) z)))]) (fun z=>(tS H f 2 z)) (fun z=>Option.bind (rp a0 m p q (j.l.drop (g+1)) z) t=some r) ?_ ?_)
   ·intro ai u;refine Y1 ?_;refine ar fun aj G=>Y3 ?_;obtain⟨al,I,b⟩:=vO k b;refine S (ix Z7.c g I) (Y4 ?_);obtain⟨ao,v,b⟩:=dA b;refine cO b (fun J b=>?_) (fun J b=>?_)
    ·refine ag.exit ?_;exact u _ s wA (ku v b:)
    refine sk G (Y4 ?_);obtain⟨ap,K,b⟩:=vO k b;refine Sd (ix Z7.c g K) (Y4 ?_);obtain⟨aq,L,b⟩:=vO k b;refine Sd (ix Z7.c g L) (Y3 ?_);obtain⟨au,M,b⟩:=aJ b;refine cF rfl rfl (VU M) (Y7 ?_);refine bC 13 _ rfl (kl [1,2,3,4,5,11,12,14]) ?_;refine Y4 ?_;refine cO b (fun N b=>?_) (fun N b=>?_)
    ·refine Y4 ?_;obtain⟨av,O,b⟩:=aJ b;refine S (bX O) (Y2 ?_);obtain⟨aw,P,b⟩:=vO k b;refine S (ix Z7.c g P) (Y2 ?_);obtain⟨ax,Q,b⟩:=aJ b;refine S (bX Q) (Y1 ?_);obtain⟨ay,R,b⟩:=aJ b;refine S (bX R) (Y2 ?_);obtain⟨U,W,b⟩:=aJ b;refine SH (am Z5.c (TK rfl) rfl (TK rfl) (TK rfl) W) ?_;refine Y2 ?_;exact u _ U wA (ku v b:)
    refine ag.skip ?_;exact u _ s wA (ku v b:)
   rintro X b;refine Y5 ?_;exact C _ (X,(g+1)) wA b (dl k)
  rw [rp] at b;have b:=ku B b;refine ag.exit ?_;obtain⟨aA,Y,b⟩:=bW b;exact y _ s wA (ku Y b:)
 rintro aB b;refine Y4 ?_;refine ag.eF 10 rfl ?_;refine ry ?_;obtain rfl:=oJ b;refine bU.cH H rfl ⟨rfl,rfl⟩ ?_;exact sy
def tT (a0:ak) (f:ah):List Z6->(Sl Z5)->Option ((Sl Z5))
 | [],b=>some b
 | g::j,b=>on (g) fun k=>(a_ f.aa ([46]:Bs)).bind fun l=>on (g) fun m=>(a_ l m.aa).bind fun p=>(vn a0 k.ay p ([40]:Bs) ([41]:Bs)).bind fun q=>(bh 24 b q).bind fun r=>tT a0 f (j) r
def p8 (a0:ak):List ah->(Sl Z5)->Option ((Sl Z5))
 | [],f=>some f
 | g::j,f=>on (g) fun b=>Option.bind (tT a0 b b.aq.l f) fun k=>on (k) fun m=>(vn a0 b.aF b.aa ([46]:Bs) ([]:Bs)).bind fun p=>(bh 24 m p).bind fun q=>on (q) fun r=>p8 a0 (j) r
def zP (a0:ak):Option (Sl Z5):=Option.bind (p8 a0 a0.aj.l (Sl.nil:Sl Z5)) fun b=>on (b) fun f=>some f
theorem VV {a0 r}(b:zP a0=some r) (H:af) :At 27 [.agg (ak.c a0)] H (RT (.a (.d (Sl.d 2 Z5.c none r))) H):=by
 unfold zP at b;refine AC.oW 55 [.tmp 2] Tryz.call27 Tryz.func27 ?_;refine ag.tok 2 fun g ap=>?_;refine Y2 ?_;refine s0 (dM (k':=2) rfl) rfl ?_;refine Y4 ?_;refine ag.fe 3 2 g rfl az ?_;refine aO kN (fun(z:(Sl Z5))=>[(3,.a (.d (Sl.d 2 Z5.c (some g) z)))]) (fun z=>(tS H g 2 z)) (fun z=>(some z)=some r) ?_ ?_
 ·intro au C;refine Y4 ?_;obtain⟨k,E,b⟩:=bZ b;refine bz (tl [1]) (fun(z:(Sl Z5)×Nat)=>[(3,.a (.d (Sl.d 2 Z5.c (some g) z.1))),(4,vi z.2)]) (fun z=>(tS H g 2 z.1)) (fun z=>a0.aj.l.length-z.2) (fun z=>Option.bind (p8 a0 (a0.aj.l.drop z.2) z.1) k=some r) ((Sl.nil:Sl Z5),0) b wA ?_;rintro ⟨p,m⟩ b av F;refine ar fun aw G=>Y4 ?_;refine aU ah.c a0.aj fun ax=>Y2 ?_
  refine ag.bJ (fun l=>Option.bind (p8 a0 l p) k=some r) b rfl (fun ay v I b=>?_) (fun I b=>?_)
  ·rw [p8] at b;refine sk G (aO (tl [1,4]) (fun(z:(Sl Z5))=>[(3,.a (.d (Sl.d 2 Z5.c (some g) z)))]) (fun z=>(tS H g 2 z)) (fun z=>Option.bind (p8 a0 (a0.aj.l.drop (m+1)) z) k=some r) ?_ ?_)
   ·intro aA J;refine Y5 ?_;obtain⟨j,K,b⟩:=vO v b;refine S (ix ah.c m K) (Y4 ?_);refine bC 5 _ rfl (kl [1,3,4]) ?_
    refine aO (tl [1,4,5]) (fun(z:(Sl Z5))=>[(3,.a (.d (Sl.d 2 Z5.c (some g) z)))]) (fun z=>(tS H g 2 z)) (fun z=>Option.bind ((vn a0 j.aF j.aa ([46]:Bs) ([]:Bs)).bind fun w=>(bh 24 z w).bind fun q=>on (q) fun s=>p8 a0 (a0.aj.l.drop (m+1)) s) k=some r) ?_ ?_
    ·intro aB L;refine Y4 ?_;obtain⟨y,M,b⟩:=dA b;refine bz (tl [1,4,5]) (fun(z:(Sl Z5)×Nat)=>[(3,.a (.d (Sl.d 2 Z5.c (some g) z.1))),(6,vi z.2)]) (fun z=>(tS H g 2 z.1)) (fun z=>j.aq.l.length-z.2) (fun z=>Option.bind (tT a0 j (j.aq.l.drop z.2) z.1) y=some r) (p,0) b wA ?_;rintro ⟨B,t⟩ b aC N;refine ar fun aD O=>Y4 ?_
     refine aU Z6.c j.aq fun aE=>Y2 ?_;refine ag.bJ (fun l=>Option.bind (tT a0 j l B) y=some r) b rfl (fun aG u P b=>?_) (fun P b=>?_)
     ·rw [tT] at b;refine sk O (ar fun aH Q=>Y1 ?_);refine ag.draw rfl ?_;refine Y5 ?_;obtain⟨aI,R,b⟩:=vO u b;refine Sd (ix Z6.c t R) (Y4 ?_);obtain⟨aL,U,b⟩:=aJ b;refine aN.s0 (jL rfl rfl U) rfl ?_;refine Y3 ?_;obtain⟨aM,W,b⟩:=vO u b;refine Sd (ix Z6.c t W) (Y2 ?_);obtain⟨aP,X,b⟩:=aJ b;refine aN.s0 (jL rfl rfl X) rfl ?_
      obtain⟨aR,Y,b⟩:=aJ b;refine cF rfl rfl (MR Y) ?_;obtain⟨Z,ab,b⟩:=aJ b;refine aN.sH (jy (f:=Z5.c) (TK rfl) rfl (TK rfl) (TK rfl) ⟨_,rfl⟩ rfl rfl (by decide) rfl rfl rfl rfl az rfl ab) rfl ?_;refine Y2 ?_;refine Q _ ?_;refine Y5 ?_;exact N _ (Z,(t+1)) wA b (dl u)
     rw [tT] at b;have b:=ku M b;refine ag.exit ?_;obtain⟨aS,ad,b⟩:=iy b;exact L _ B wA (ku ad b:)
    rintro aV b;refine Y7 ?_;obtain⟨w,ae,b⟩:=aJ b;refine Sc rfl rfl (MR ae) ?_;obtain⟨q,ai,b⟩:=aJ b;refine SH (am Z5.c (TK rfl) rfl (TK rfl) (TK rfl) ai) ?_;refine Y2 ?_;obtain⟨aW,al,b⟩:=iy b;exact J _ q wA (ku al b:)
   rintro s b;refine Y5 ?_;exact F _ (s,(m+1)) wA b (dl v)
  rw [p8] at b;have b:=ku E b;refine ag.exit ?_;obtain⟨aX,ao,b⟩:=bW b;exact C _ p wA (ku ao b:)
 rintro aY b;refine Y4 ?_;refine ag.eF 2 rfl ?_;refine ry ?_;obtain rfl:=oJ b;refine bU.cH H rfl ⟨rfl,rfl⟩ ?_;exact sy
def pJ (a0:ak):Option (Sl Z5):=(za a0 true).bind fun x3=>bif (decide ((0:Int)<((x3.l.length:Nat):Int))) then(some x3) else((zF a0).bind fun b=>(bh 24 x3 b).bind fun f=>(zP a0).bind fun g=>(bh 24 f g).bind fun j=>some j)
theorem IZ {a0 r}(b:pJ a0=some r) (H:af) :At 11 [.agg (ak.c a0)] H (RT (.a (.d (Sl.d 2 Z5.c none r))) H):=by
 unfold pJ at b;refine AC.oW 18 [.tmp 2] Tryz.call11 Tryz.func11 ?_;refine Y2 ?_;refine s0 (dM (k':=2) rfl) rfl ?_;refine Y1 ?_;refine ag.tok 2 fun q s=>?_;refine Y2 ?_;obtain⟨x3,f,b⟩:=aX b;refine sH (bV rfl rfl (Q1 f _ az)) rfl ?_;refine Y2 ?_;refine ar fun t g=>Y2 ?_;refine aU Z5.c x3 fun u=>Y2 ?_;refine cE b (fun j b=>?_) (fun j b=>?_)
 ·refine Y4 ?_;refine ag.eF 2 rfl ?_;refine ry ?_;obtain rfl:=oJ b;refine bU.cH H rfl ⟨rfl,rfl⟩ ?_;exact sy
 refine sk g (Y3 ?_);obtain⟨v,k,b⟩:=aX b;refine Sc rfl rfl (VA k) ?_;obtain⟨w,l,b⟩:=aX b;refine SH (am Z5.c (TK rfl) rfl (TK rfl) (TK rfl) l) ?_;refine Y5 ?_;obtain⟨y,m,b⟩:=aX b;refine Sc rfl rfl (VV m) ?_;obtain⟨z,p,b⟩:=aX b;refine SH (am Z5.c (TK rfl) rfl (TK rfl) (TK rfl) p) ?_;refine Y2 ?_;refine ag.eF 2 rfl ?_;refine ry ?_
 obtain rfl:=oJ b;refine bU.cH H rfl ⟨rfl,rfl⟩ ?_;exact sy
def tU :List Z6->Int->Option (Int)
 | [],b=>some b
 | f::g,b=>on (f) fun j=>on (f) fun k=>(cN ((j.ay.l.length:Nat):Int) ((k.bf.l.length:Nat):Int)).bind fun m=>(cN b m).bind fun p=>tU  (g) p
def ru :List ah->Int->Option (Int)
 | [],f=>some f
 | g::j,f=>on (g) fun b=>(cN (1:Int) ((b.aq.l.length:Nat):Int)).bind fun k=>(cN k ((b.ax.l.length:Nat):Int)).bind fun m=>(cN m ((b.aF.l.length:Nat):Int)).bind fun p=>(cN p ((b.bf.l.length:Nat):Int)).bind fun q=>(cN q ((b.aM.l.length:Nat):Int)).bind fun r=>(cN f r).bind fun s=>Option.bind (tU  b.aq.l s) fun t=>on (t) fun u=>ru  (j) u
def zJ (a0:ak):Option Bool:=bif (decide ((70:Int)<((a0.aj.l.length:Nat):Int))) then(some true) else(Option.bind (ru  a0.aj.l (0:Int)) fun b=>on (b) fun f=>some (decide ((1000:Int)<f)))
theorem VW {a0 r}(b:zJ a0=some r) (H:af) :At 14 [.agg (ak.c a0)] H (RT (.a (.d (.bool r))) H):=by
 unfold zJ at b;refine AC.oW 71 [.tmp 2] Tryz.call14 Tryz.func14 ?_;refine Y4 ?_;refine ar fun au w=>Y3 ?_;refine aU ah.c a0.aj fun av=>Y2 ?_;refine cE b (fun y b=>?_) (fun y b=>?_)
 ·refine Y3 ?_;exact rt b
 refine sk w (Y3 ?_);refine aO kN (fun(z:Int)=>[(3,.a (.d (.int .i64 z)))]) (fun z=>H) (fun z=>(some (decide ((1000:Int)<z)))=some r) ?_ ?_
 ·intro aw B;refine Y4 ?_;obtain⟨j,C,b⟩:=bZ b;refine bz (tl [1]) (fun(z:Int×Nat)=>[(3,.a (.d (.int .i64 z.1))),(4,vi z.2)]) (fun z=>H) (fun z=>a0.aj.l.length-z.2) (fun z=>Option.bind (ru  (a0.aj.l.drop z.2) z.1) j=some r) ((0:Int),0) b wA ?_;rintro ⟨q,k⟩ b aB E;refine ar fun aC F=>Y4 ?_;refine aU ah.c a0.aj fun aD=>Y2 ?_
  refine ag.bJ (fun l=>Option.bind (ru  l q) j=some r) b rfl (fun aE t G b=>?_) (fun G b=>?_)
  ·rw [ru] at b;refine sk F (aO (tl [1,4]) (fun(z:Int)=>[(3,.a (.d (.int .i64 z)))]) (fun z=>H) (fun z=>Option.bind (ru  (a0.aj.l.drop (k+1)) z) j=some r) ?_ ?_)
   ·intro aH I;refine Y5 ?_;obtain⟨g,J,b⟩:=vO t b;refine S (ix ah.c k J) (Y4 ?_);refine bC 5 _ rfl (kl [1,3,4]) ?_;refine Y4 ?_;refine aU Z6.c g.aq fun aI=>?_;obtain⟨aL,K,b⟩:=aJ b;refine S (fp K) (Y2 ?_);refine aU Z8.c g.ax fun aP=>?_;obtain⟨aR,L,b⟩:=aJ b;refine S (fp L) (Y2 ?_);refine aU Z7.c g.aF fun aS=>?_
    obtain⟨aV,M,b⟩:=aJ b;refine S (fp M) (Y2 ?_);refine aU aA.c g.bf fun aW=>?_;obtain⟨aX,N,b⟩:=aJ b;refine S (fp N) (Y2 ?_);refine aU aG g.aM fun aY=>?_;obtain⟨aZ,O,b⟩:=aJ b;refine S (fp O) ?_;obtain⟨P,Q,b⟩:=aJ b;refine S (fp Q) (Y6 ?_);obtain⟨u,R,b⟩:=dA b
    refine bz (tl [1,4,5]) (fun(z:Int×Nat)=>[(3,.a (.d (.int .i64 z.1))),(6,vi z.2)]) (fun z=>H) (fun z=>g.aq.l.length-z.2) (fun z=>Option.bind (tU  (g.aq.l.drop z.2) z.1) u=some r) (P,0) b wA ?_;rintro ⟨v,m⟩ b a1 U;refine ar fun a2 W=>Y4 ?_;refine aU Z6.c g.aq fun a3=>Y2 ?_
    refine ag.bJ (fun l=>Option.bind (tU  l v) u=some r) b rfl (fun a4 p X b=>?_) (fun X b=>?_)
    ·rw [tU] at b;refine sk W (ar fun a5 Y=>Y1 ?_);refine ag.draw rfl ?_;refine Y4 ?_;obtain⟨Z,aa,b⟩:=vO p b;refine Sd (ix Z6.c m aa) (Y2 ?_);refine aN.s0 (sr (f:=Z7.c) (s:=Z.ay) (TK rfl) rfl rfl rfl) rfl ?_;refine Y3 ?_;obtain⟨ab,ad,b⟩:=vO p b;refine Sd (ix Z6.c m ad) (Y2 ?_);refine aN.s0 (sr (f:=aA.c) (s:=ab.bf) (TK rfl) rfl rfl rfl) rfl ?_
     obtain⟨a6,ae,b⟩:=aJ b;refine aN.s0 (A6 rfl rfl ae) rfl ?_;obtain⟨ai,al,b⟩:=aJ b;refine aN.s0 (A6 rfl rfl al) rfl ?_;refine Y2 ?_;refine Y _ ?_;refine Y5 ?_;exact U _ (ai,(m+1)) wA b (dl p)
    rw [tU] at b;have b:=ku R b;refine ag.exit ?_;obtain⟨a7,am,b⟩:=iy b;exact I _ v wA (ku am b:)
   rintro ao b;refine Y5 ?_;exact E _ (ao,(k+1)) wA b (dl t)
  rw [ru] at b;have b:=ku C b;refine ag.exit ?_;obtain⟨a8,ap,b⟩:=bW b;exact B _ q wA (ku ap b:)
 rintro a9 b;refine Y5 ?_;exact rt b
def sU (f:Z9->Option Int):List Z9->Int->Option (Int)
 | [],b=>some b
 | g::j,b=>on (g) fun k=>(f k).bind fun l=>(cN b l).bind fun m=>sU f (j) m
def nX:Nat->Z9->Option Int
 | 0,_=>none
 | n+1,a0=>Option.bind (sU (nX n) a0.aB.l (1:Int)) fun b=>on (b) fun f=>some f
def F3 (n:Nat):Prop:=∀{a0:Z9}   {r:Int},nX n a0=some r->∀(H:af),At 146 [.agg (Z9.c a0)] H (RT (.a (.d (.int .i64 r))) H)
theorem VX (n:Nat) (m:F3 (au:=au) n):F3 (au:=au) (n+1):=by
 intro a0   r b H;rw [nX] at b;refine AC.oW 21 [.tmp 2] Tryz.call146 Tryz.func146 ?_;refine Y7 ?_;refine aO kN (fun(z:Int)=>[(3,.a (.d (.int .i64 z)))]) (fun z=>H) (fun z=>(some z)=some r) ?_ ?_
 ·intro F p;refine Y4 ?_;obtain⟨f,q,b⟩:=bZ b;refine bz (tl [1]) (fun(z:Int×Nat)=>[(3,.a (.d (.int .i64 z.1))),(4,vi z.2)]) (fun z=>H) (fun z=>a0.aB.l.length-z.2) (fun z=>Option.bind (sU (nX n) (a0.aB.l.drop z.2) z.1) f=some r) ((1:Int),0) b wA ?_;rintro ⟨g,j⟩ b G s;refine ar fun I t=>Y3 ?_
  refine s0 (dK (TK rfl) rfl rfl (Z9.ej _)) rfl ?_;refine aU Z9.c a0.aB fun J=>Y2 ?_;refine ag.bJ (fun l=>Option.bind (sU (nX n) l g) f=some r) b rfl (fun K k u b=>?_) (fun u b=>?_)
  ·rw [sU] at b;refine sk t (ar fun L v=>Y4 ?_);refine s0 (dK (TK rfl) rfl rfl (Z9.ej _)) rfl ?_;refine Y1 ?_;obtain⟨M,w,b⟩:=vO k b;refine S (ix Z9.c j w) (Y1 ?_);obtain⟨N,y,b⟩:=aJ b;refine Sc rfl rfl (m y) ?_;obtain⟨B,C,b⟩:=aJ b;refine S (fp C) (Y2 ?_);refine v _ ?_;refine Y5 ?_
   exact s _ (B,(j+1)) wA b (dl k)
  rw [sU] at b;have b:=ku q b;refine ag.exit ?_;obtain⟨O,E,b⟩:=bW b;exact p _ g wA (ku E b:)
 rintro P b;refine Y4 ?_;exact rt b
theorem MS:∀(n:Nat),(F3 (au:=au) n)
 | 0=>fun b=>by first|cases b|(rw [nX] at b; cases b)
 | n+1=>VX n (MS n)
def VY (a0:Z9):Option Int:=nX F0 a0
theorem VZ {a0 r}(b:VY a0=some r) (H:af) :At 146 [.agg (Z9.c a0)] H (RT (.a (.d (.int .i64 r))) H):=(MS F0) b H 
def I3 (a0:Z9):Option Int:=nX F0 a0
def sV (f:Z9->Option Int):List Z9->Int->Option (Int)
 | [],b=>some b
 | j::k,b=>on (j) fun l=>(f l).bind fun g=>sV f (k) (if g>b then g else b)
def nY:Nat->Z9->Option Int
 | 0,_=>none
 | n+1,a0=>Option.bind (sV (nY n) a0.aB.l (0:Int)) fun b=>on (b) fun f=>(cN f (1:Int)).bind fun g=>some g
def F4 (n:Nat):Prop:=∀{a0:Z9}   {r:Int},nY n a0=some r->∀(H:af),At 147 [.agg (Z9.c a0)] H (RT (.a (.d (.int .i64 r))) H)
theorem V0 (n:Nat) (q:F4 (au:=au) n):F4 (au:=au) (n+1):=by
 intro a0   r b H;rw [nY] at b;refine AC.oW 22 [.tmp 2] Tryz.call147 Tryz.func147 ?_;refine Y7 ?_;refine aO kN (fun(z:Int)=>[(3,.a (.d (.int .i64 z)))]) (fun z=>H) (fun z=>((cN z (1:Int)).bind fun g=>some g)=some r) ?_ ?_
 ·intro G s;refine Y4 ?_;obtain⟨j,t,b⟩:=bZ b;refine bz (tl [1]) (fun(z:Int×Nat)=>[(3,.a (.d (.int .i64 z.1))),(4,vi z.2)]) (fun z=>H) (fun z=>a0.aB.l.length-z.2) (fun z=>Option.bind (sV (nY n) (a0.aB.l.drop z.2) z.1) j=some r) ((0:Int),0) b wA ?_;rintro ⟨f,k⟩ b I u;refine ar fun J v=>Y3 ?_
  refine s0 (dK (TK rfl) rfl rfl (Z9.ej _)) rfl ?_;refine aU Z9.c a0.aB fun K=>Y2 ?_;refine ag.bJ (fun l=>Option.bind (sV (nY n) l f) j=some r) b rfl (fun L m w b=>?_) (fun w b=>?_)
  ·rw [sV] at b;refine sk v (ar fun M y=>Y4 ?_);refine s0 (dK (TK rfl) rfl rfl (Z9.ej _)) rfl ?_;refine Y1 ?_;obtain⟨N,B,b⟩:=vO m b;refine S (ix Z9.c k B) (Y1 ?_);obtain⟨p,C,b⟩:=aJ b;refine Sc rfl rfl (q C) (s0 (Pa rfl rfl) rfl ?_);refine Y2 ?_;refine y _ ?_;refine Y5 ?_
   exact u _ ((if p>f then p else f),(k+1)) wA b (dl m)
  rw [sV] at b;have b:=ku t b;refine ag.exit ?_;obtain⟨O,E,b⟩:=bW b;exact s _ f wA (ku E b:)
 rintro P b;refine Y2 ?_;obtain⟨g,F,b⟩:=aX b;refine S (fp F) (Y2 ?_);exact rt b
theorem MT:∀(n:Nat),(F4 (au:=au) n)
 | 0=>fun b=>by first|cases b|(rw [nY] at b; cases b)
 | n+1=>V0 n (MT n)
def V1 (a0:Z9):Option Int:=nY F0 a0
theorem V2 {a0 r}(b:V1 a0=some r) (H:af) :At 147 [.agg (Z9.c a0)] H (RT (.a (.d (.int .i64 r))) H):=(MT F0) b H 
def I4 (a0:Z9):Option Int:=nY F0 a0
def sW (a0:(Sl Bs)) (f:Bs):Nat->Nat->Option (Unit ⊕ Bool)
 | 0,b=>some (Sum.inl ())
 | g+1,b=>on (f) fun j=>(a0.l[b]?).bind fun k=>bif ((j==k)) then(some (Sum.inr true)) else(sW a0 f (g) (b+1) )
def qP (a0:(Sl Bs)):List Bs->Nat->Option (Unit ⊕ Bool)
 | [],b=>some (Sum.inl ())
 | f::g,b=>Option.bind (sW a0 f b 0 ) fun j=>match j with|Sum.inl _=>(on (()) fun _=>qP a0 (g) (b+1) )|Sum.inr k=>(some (Sum.inr k))
def zh (a0:(Sl Bs)):Option Bool:=Option.bind (qP a0 a0.l 0 ) fun b=>match b with|Sum.inl _=>(on (()) fun _=>some false)|Sum.inr f=>(some f)
theorem V3 {a0 w0 r}(b:zh a0=some r) (H:af) :At 205 [.d (Sl.d 1 aG w0 a0)] H (RT (.a (.d (.bool r))) H):=by
 unfold zh at b;refine AC.oW 25 [.tmp 2] Tryz.call205 Tryz.func205 ?_;refine Y3 ?_;refine aO kN (fun(z:Unit)=>[]) (fun z=>H) (fun z=>(some false)=some r) ?_ ?_
 ·intro N t;refine Y4 ?_;obtain⟨g,k,b⟩:=bZ b;refine bz (tl [0]) (fun(z:Nat)=>[(3,vi z)]) (fun z=>H) (fun z=>a0.l.length-z) (fun z=>Option.bind (qP a0 (a0.l.drop z) z ) g=some r) 0 b wA ?_;rintro f b O u;refine ar fun P v=>Y3 ?_;refine aU aG a0 fun Q=>Y2 ?_;refine ag.bJ (fun l=>Option.bind (qP a0 l f ) g=some r) b rfl (fun m p w b=>?_) (fun w b=>?_)
  ·rw [qP] at b;refine sk v (aO (tl [0,3]) (fun(z:Unit)=>[]) (fun z=>H) (fun z=>Option.bind (qP a0 (a0.l.drop (f+1)) (f+1) ) g=some r) ?_ ?_)
   ·intro R y;refine Y5 ?_;obtain⟨q,s,b⟩:=dA b;refine bz (tl [0,3]) (fun(z:Nat)=>[(4,vi z)]) (fun z=>H) (fun z=>f-z) (fun z=>Option.bind (sW a0 m (f-z) z ) q=some r) 0 b wA ?_;rintro j b S B;refine ar fun U C=>Y5 ?_;refine ag.Ik (fun l=>Option.bind (sW a0 m l j ) q=some r) b rfl (fun E F b=>?_) (fun F b=>?_)
    ·rw [sW] at b;refine sk C (ar fun W G=>Y4 ?_);obtain⟨X,I,b⟩:=vO p b;refine Sd (ix aG f I) (Y3 ?_);obtain⟨Y,J,b⟩:=aJ b;refine Sd (ix aG j J) (Y3 ?_);refine cO b (fun K b=>?_) (fun K b=>?_)
     ·refine Y3 ?_;refine ry ?_;have b:=ku s b;have b:=ku k b;obtain rfl:=oJ b;refine bU.cH H rfl ⟨rfl,rfl⟩ ?_;exact(fun _ _ h=>h)
     refine sk G (Y5 ?_);exact B _ (j+1) wA b (dn E)
    rw [sW] at b;have b:=ku s b;refine ag.exit ?_;obtain⟨Z,L,b⟩:=iy b;exact y _ () wA (ku L b:)
   rintro _ b;refine Y5 ?_;exact u _ (f+1) wA b (dl p)
  rw [qP] at b;have b:=ku k b;refine ag.exit ?_;obtain⟨aa,M,b⟩:=bW b;exact t _ () wA (ku M b:)
 rintro _ b;refine Y3 ?_;exact rt b
def sX (a0:Z9) (b:Bool):Option Bool:=bif (decide (a0.ai=(0:Int))) then(some ((((decide (a0.bA=(0:Int)))&&((a0.bp==([]:Bs))))&&(decide (((a0.aB.l.length:Nat):Int)=(0:Int))))&&(decide (((a0.aR.l.length:Nat):Int)=(0:Int))))) else(bif (decide (a0.ai=(1:Int))) then(some (((((decide (a0.bA=(0:Int)))||(decide (a0.bA=(1:Int))))&&((a0.bp==([]:Bs))))&&(decide (((a0.aB.l.length:Nat):Int)=(0:Int))))&&(decide (((a0.aR.l.length:Nat):Int)=(0:Int))))) else(bif (decide (a0.ai=(2:Int))) then(some ((((a0.bp==([]:Bs)))&&(decide (((a0.aB.l.length:Nat):Int)=(0:Int))))&&(decide (((a0.aR.l.length:Nat):Int)=(0:Int))))) else(bif (decide (a0.ai=(3:Int))) then(some (((decide (a0.bA=(0:Int)))&&(decide (((a0.aB.l.length:Nat):Int)=(0:Int))))&&(decide (((a0.aR.l.length:Nat):Int)=(0:Int))))) else(bif (decide (a0.ai=(4:Int))) then(on (bif (((decide (a0.bA=(0:Int)))&&(decide (((a0.aB.l.length:Nat):Int)=(0:Int))))&&(decide (((a0.aR.l.length:Nat):Int)=(0:Int)))) then eW a0.bp else false) fun f=>some (((((((decide (a0.bA=(0:Int)))&&(decide (((a0.aB.l.length:Nat):Int)=(0:Int))))&&(decide (((a0.aR.l.length:Nat):Int)=(0:Int))))&&f)&&(!(a0.bp==([116,114,117,101]:Bs))))&&(!(a0.bp==([102,97,108,115,101]:Bs))))&&(!(a0.bp==([110,117,108,108]:Bs))))) else(bif (decide (a0.ai=(5:Int))) then(some (((decide (a0.bA=(0:Int)))&&((a0.bp==([]:Bs))))&&(decide (((a0.aR.l.length:Nat):Int)=(0:Int))))) else(bif (decide (a0.ai=(6:Int))) then(aZ ((((decide (a0.bA=(0:Int)))&&((a0.bp==([]:Bs))))&&(decide (((a0.aR.l.length:Nat):Int)=((a0.aB.l.length:Nat):Int))))) (zh a0.aR) false fun g=>some ((((decide (a0.bA=(0:Int)))&&((a0.bp==([]:Bs))))&&(decide (((a0.aR.l.length:Nat):Int)=((a0.aB.l.length:Nat):Int))))&&(!g))) else(bif (decide (a0.ai=(7:Int))) then(on (bif (((b&&(decide (a0.bA=(0:Int))))&&(decide (((a0.aB.l.length:Nat):Int)=(0:Int))))&&(decide (((a0.aR.l.length:Nat):Int)=(0:Int)))) then eW a0.bp else false) fun j=>some ((((b&&(decide (a0.bA=(0:Int))))&&(decide (((a0.aB.l.length:Nat):Int)=(0:Int))))&&(decide (((a0.aR.l.length:Nat):Int)=(0:Int))))&&j)) else(some false))))))))
theorem V4 {a0 f r}(b:sX a0 f=some r) (H:af) :At 182 [.agg (Z9.c a0),.d (.bool f)] H (RT (.a (.d (.bool r))) H):=by
 unfold sX at b;refine AC.oW 193 [.tmp 4] Tryz.call182 Tryz.func182 ?_;refine Y4 ?_;refine ar fun y g=>Y9 ?_;refine cE b (fun j b=>?_) (fun j b=>?_)
 ·refine Y6 ?_;refine Gk 13 ?_;refine Gk 14 ?_;refine Y3 ?_;refine bI 18 rfl (fun hC=>dK (TK rfl) rfl rfl (Z9.ej _)) ?_;refine bI 19 rfl (fun hC=>dG Z9.c a0.aB) ?_;refine Gk 20 ?_;refine Y3 ?_;refine Gk 24 ?_;refine bI 25 rfl (fun hC=>dG aG a0.aR) ?_;refine Gk 26 ?_;refine Y3 ?_;exact rt b
 refine Y4 ?_;refine cE b (fun k b=>?_) (fun k b=>?_)
 ·refine Y6 ?_;refine Gk 35 ?_;refine Gk 36 ?_;refine Y3 ?_;refine Gk 40 ?_;refine Gk 41 ?_;refine Y3 ?_;refine bI 45 rfl (fun hC=>dK (TK rfl) rfl rfl (Z9.ej _)) ?_;refine bI 46 rfl (fun hC=>dG Z9.c a0.aB) ?_;refine Gk 47 ?_;refine Y3 ?_;refine Gk 51 ?_;refine bI 52 rfl (fun hC=>dG aG a0.aR) ?_;refine Gk 53 ?_;refine Y3 ?_;exact rt b
 refine Y4 ?_;refine cE b (fun l b=>?_) (fun l b=>?_)
 ·refine Y6 ?_;refine bI 62 rfl (fun hC=>dK (TK rfl) rfl rfl (Z9.ej _)) ?_;refine bI 63 rfl (fun hC=>dG Z9.c a0.aB) ?_;refine Gk 64 ?_;refine Y3 ?_;refine Gk 68 ?_;refine bI 69 rfl (fun hC=>dG aG a0.aR) ?_;refine Gk 70 ?_;refine Y3 ?_;exact rt b
 refine Y4 ?_;refine cE b (fun m b=>?_) (fun m b=>?_)
 ·refine Y6 ?_;refine bI 79 rfl (fun hC=>dK (TK rfl) rfl rfl (Z9.ej _)) ?_;refine bI 80 rfl (fun hC=>dG Z9.c a0.aB) ?_;refine Gk 81 ?_;refine Y3 ?_;refine Gk 85 ?_;refine bI 86 rfl (fun hC=>dG aG a0.aR) ?_;refine Gk 87 ?_;refine Y3 ?_;exact rt b
 refine Y4 ?_;refine cE b (fun p b=>?_) (fun p b=>?_)
 ·refine Y6 ?_;refine bI 96 rfl (fun hC=>dK (TK rfl) rfl rfl (Z9.ej _)) ?_;refine bI 97 rfl (fun hC=>dG Z9.c a0.aB) ?_;refine Gk 98 ?_;refine Y3 ?_;refine Gk 102 ?_;refine bI 103 rfl (fun hC=>dG aG a0.aR) ?_;refine Gk 104 ?_;refine Y3 ?_;refine Gk 108 ?_;obtain⟨z,q,b⟩:=nO (fun _=>rfl) b;refine dP 109 rfl rfl rfl rfl rfl (fun hC=>mF (q hC)) ?_
  refine Y3 ?_;refine Gk 113 ?_;refine Gk 114 ?_;refine Y3 ?_;refine Gk 118 ?_;refine Gk 119 ?_;refine Y3 ?_;refine Gk 123 ?_;refine Gk 124 ?_;refine Y3 ?_;exact rt b
 refine Y4 ?_;refine cE b (fun s b=>?_) (fun s b=>?_)
 ·refine Y6 ?_;refine Gk 133 ?_;refine Gk 134 ?_;refine Y3 ?_;refine Gk 138 ?_;refine bI 139 rfl (fun hC=>dG aG a0.aR) ?_;refine Gk 140 ?_;refine Y3 ?_;exact rt b
 refine Y4 ?_;refine cE b (fun t b=>?_) (fun t b=>?_)
 ·refine Y6 ?_;refine Gk 149 ?_;refine Gk 150 ?_;refine Y3 ?_;refine Gk 154 ?_;refine bI 155 rfl (fun hC=>dG aG a0.aR) ?_;refine Y1 ?_;refine bI 157 rfl (fun hC=>dK (TK rfl) rfl rfl (Z9.ej _)) ?_;refine bI 158 rfl (fun hC=>dG Z9.c a0.aB) ?_;refine G2 156 159 rfl rfl BI ?_;refine Y3 ?_;refine Gk 163 ?_;obtain⟨B,u,b⟩:=eB b
  refine dP 164 rfl rfl rfl rfl rfl (fun hC=>V3 (u hC)) ?_;refine Gk 165 ?_;refine Y3 ?_;exact rt b
 refine Y4 ?_;refine cE b (fun v b=>?_) (fun v b=>?_)
 ·refine Y4 ?_;refine Gk 172 ?_;refine Gk 173 ?_;refine Y3 ?_;refine bI 177 rfl (fun hC=>dK (TK rfl) rfl rfl (Z9.ej _)) ?_;refine bI 178 rfl (fun hC=>dG Z9.c a0.aB) ?_;refine Gk 179 ?_;refine Y3 ?_;refine Gk 183 ?_;refine bI 184 rfl (fun hC=>dG aG a0.aR) ?_;refine Gk 185 ?_;refine Y3 ?_;refine Gk 189 ?_;obtain⟨C,w,b⟩:=nO (fun _=>rfl) b
  refine dP 190 rfl rfl rfl rfl rfl (fun hC=>mF (w hC)) ?_;refine Y3 ?_;exact rt b
 refine sk g (Y3 ?_);exact rt b
def rj (b:Bool):List Bs->Unit ⊕ Bool
 | []=>Sum.inl ()
 | f::g=>on (bif b then f else([]:Bs)) fun j=>on (bif b then eW j else false) fun k=>bif (b&&(!k)) then(Sum.inr false) else(rj b (g) )
def kR (f:Bool) (b:Z9->Bool->Option Bool):List Z9->Option (Unit ⊕ Bool)
 | []=>some (Sum.inl ())
 | g::j=>on (g) fun k=>(b k f).bind fun l=>bif (!l) then(some (Sum.inr false)) else(kR f b (j) )
def iA:Nat->Z9->Bool->Option Bool
 | 0,_,_=>none
 | n+1,a0,b=>(sX a0 b).bind fun f=>bif (!f) then(some false) else(on (rj b a0.aR.l ) fun g=>match g with|Sum.inl _=>(on (()) fun _=>Option.bind (kR b (iA n) a0.aB.l ) fun j=>match j with|Sum.inl _=>(on (()) fun _=>some true)|Sum.inr k=>(some k))|Sum.inr m=>(some m))
def F5 (n:Nat):Prop:=∀{a0:Z9}{a1:Bool}   {r:Bool},iA n a0 a1=some r->∀(H:af),At 148 [.agg (Z9.c a0),.d (.bool a1)] H (RT (.a (.d (.bool r))) H)
theorem V5 (n:Nat) (u:F5 (au:=au) n):F5 (au:=au) (n+1):=by
 intro a0 f   r b H;rw [iA] at b;refine AC.oW 43 [.tmp 4] Tryz.call148 Tryz.func148 ?_;refine Y4 ?_;refine ar fun aa v=>Y3 ?_;obtain⟨ab,w,b⟩:=aX b;refine Sc rfl rfl (V4 w) (Y2 ?_);refine cE b (fun y b=>?_) (fun y b=>?_)
 ·refine Y3 ?_;exact rt b
 refine sk v (aO (tl [1,2]) (fun(z:Unit)=>[]) (fun z=>H) (fun z=>(Option.bind (kR f (iA n) a0.aB.l ) fun B=>match B with|Sum.inl _=>(on (()) fun _=>some true)|Sum.inr C=>(some C))=some r) ?_ ?_)
 ·intro ad E;refine Y4 ?_;obtain⟨g,j,b⟩:=bW b;refine bz (tl [1,2]) (fun(z:Nat)=>[(5,vi z)]) (fun z=>H) (fun z=>a0.aR.l.length-z) (fun z=>g (rj f (a0.aR.l.drop z) )=some r) 0 b wA ?_;rintro k b ae F;refine ar fun ah G=>Y4 ?_;refine aU aG a0.aR fun ai=>Y2 ?_;refine ag.bJ (fun l=>g (rj f l )=some r) b rfl (fun aj m I b=>?_) (fun I b=>?_)
  ·rw [rj] at b;refine sk G (ar fun ak J=>Y5 ?_);refine Gk 20 ?_;refine Y1 ?_;obtain⟨al,K,b⟩:=iX (fun _=>m) b;refine fJ 21 22 rfl rfl (fun hC=>ix aG k (K hC)) ?_;refine Gk 23 ?_;obtain⟨am,L,b⟩:=iX (fun _=>rfl) b;refine dP 24 rfl rfl rfl rfl rfl (fun hC=>mF (L hC)) ?_;refine Gk 25 ?_;refine Y2 ?_;refine cP b (fun M b=>?_) (fun M b=>?_)
   ·refine Y3 ?_;exact rs (ku j b:)
   refine sk J (Y5 ?_);exact F _ (k+1) wA b (dl m)
  rw [rj] at b;have b:=ku j b;refine ag.exit ?_;obtain⟨ao,N,b⟩:=bW b;exact E _ () wA (ku N b:)
 rintro _ b;refine aO kN (fun(z:Unit)=>[]) (fun z=>H) (fun z=>(some true)=some r) ?_ ?_
 ·intro ap O;refine Y4 ?_;obtain⟨p,q,b⟩:=bZ b;refine bz (tl [1,2]) (fun(z:Nat)=>[(6,vi z)]) (fun z=>H) (fun z=>a0.aB.l.length-z) (fun z=>Option.bind (kR f (iA n) (a0.aB.l.drop z) ) p=some r) 0 b wA ?_;rintro s b aq P;refine ar fun av Q=>Y3 ?_;refine s0 (dK (TK rfl) rfl rfl (Z9.ej _)) rfl ?_
  refine aU Z9.c a0.aB fun aw=>Y2 ?_;refine ag.bJ (fun l=>Option.bind (kR f (iA n) l ) p=some r) b rfl (fun ax t R b=>?_) (fun R b=>?_)
  ·rw [kR] at b;refine sk Q (ar fun ay U=>Y3 ?_);refine s0 (dK (TK rfl) rfl rfl (Z9.ej _)) rfl ?_;refine Y1 ?_;obtain⟨aA,W,b⟩:=vO t b;refine S (ix Z9.c s W) (Y2 ?_);obtain⟨aC,X,b⟩:=aJ b;refine Sc rfl rfl (u X) (Y2 ?_);refine cO b (fun Y b=>?_) (fun Y b=>?_)
   ·refine Y3 ?_;exact rs (ku q b:)
   refine sk U (Y5 ?_);exact P _ (s+1) wA b (dl t)
  rw [kR] at b;have b:=ku q b;refine ag.exit ?_;obtain⟨aD,Z,b⟩:=bW b;exact O _ () wA (ku Z b:)
 rintro _ b;refine Y3 ?_;exact rt b
theorem MU:∀(n:Nat),(F5 (au:=au) n)
 | 0=>fun b=>by first|cases b|(rw [iA] at b; cases b)
 | n+1=>V5 n (MU n)
def V6 (a0:Z9) (b:Bool):Option Bool:=iA F0 a0 b
theorem V7 {a0 b r}(f:V6 a0 b=some r) (H:af) :At 148 [.agg (Z9.c a0),.d (.bool b)] H (RT (.a (.d (.bool r))) H):=(MU F0) f H 
def V8 (a0:Z9) (b:Bool):Option Bool:=iA F0 a0 b
def gW (a0:Z9):Option Bool:=(I3 a0).bind fun x3=>aZ ((decide (x3<=(4096:Int)))) (I4 a0) (0:Int) fun b=>aZ (((decide (x3<=(4096:Int)))&&(decide (b<=(24:Int))))) (V8 a0 true) false fun x5=>some (((decide (x3<=(4096:Int)))&&(decide (b<=(24:Int))))&&x5)
def F6 (a0:Z9):Option Bool:=gW a0
theorem MV {a0 r}(b:F6 a0=some r) (H:af) :At 110 [.agg (Z9.c a0)] H (RT (.a (.d (.bool r))) H):=by
 unfold F6 gW at b;refine AC.oW 15 [.tmp 2] Tryz.call110 Tryz.func110 ?_;refine Y6 ?_;obtain⟨x3,f,b⟩:=aX b;refine Sc rfl rfl (VZ f) (Y3 ?_);obtain⟨k,g,b⟩:=eB b;refine dP 7 rfl rfl rfl rfl rfl (fun hC=>V2 (g hC)) ?_;refine Gk 8 ?_;refine Y3 ?_;obtain⟨x5,j,b⟩:=eB b;refine dP 12 rfl rfl rfl rfl rfl (fun hC=>V7 (j hC)) ?_;refine Y3 ?_;exact rt b
def sY (b:Z9->Option Bool):List Z9->Option (Unit ⊕ Bool)
 | []=>some (Sum.inl ())
 | f::g=>on (f) fun j=>(b j).bind fun k=>bif (!k) then(some (Sum.inr false)) else(sY b (g) )
def pK:Nat->Z9->Option Bool
 | 0,_=>none
 | n+1,a0=>Option.bind (sY (pK n) a0.aB.l ) fun b=>match b with|Sum.inl _=>(on (()) fun _=>some (!decide (a0.ai=(7:Int))))|Sum.inr f=>(some f)
def F7 (n:Nat):Prop:=∀{a0:Z9}   {r:Bool},pK n a0=some r->∀(H:af),At 111 [.agg (Z9.c a0)] H (RT (.a (.d (.bool r))) H)
theorem V9 (n:Nat) (m:F7 (au:=au) n):F7 (au:=au) (n+1):=by
 intro a0   r b H;rw [pK] at b;refine AC.oW 21 [.tmp 2] Tryz.call111 Tryz.func111 ?_;refine Y4 ?_;refine aO (tl [1]) (fun(z:Unit)=>[]) (fun z=>H) (fun z=>(some (!decide (a0.ai=(7:Int))))=some r) ?_ ?_
 ·intro C p;refine Y4 ?_;obtain⟨f,g,b⟩:=bZ b;refine bz (tl [1]) (fun(z:Nat)=>[(3,vi z)]) (fun z=>H) (fun z=>a0.aB.l.length-z) (fun z=>Option.bind (sY (pK n) (a0.aB.l.drop z) ) f=some r) 0 b wA ?_;rintro j b E q;refine ar fun F s=>Y3 ?_;refine s0 (dK (TK rfl) rfl rfl (Z9.ej _)) rfl ?_;refine aU Z9.c a0.aB fun G=>Y2 ?_
  refine ag.bJ (fun l=>Option.bind (sY (pK n) l ) f=some r) b rfl (fun I k t b=>?_) (fun t b=>?_)
  ·rw [sY] at b;refine sk s (ar fun J u=>Y3 ?_);refine s0 (dK (TK rfl) rfl rfl (Z9.ej _)) rfl ?_;refine Y1 ?_;obtain⟨K,v,b⟩:=vO k b;refine S (ix Z9.c j v) (Y1 ?_);obtain⟨L,w,b⟩:=aJ b;refine Sc rfl rfl (m w) (Y2 ?_);refine cO b (fun y b=>?_) (fun y b=>?_)
   ·refine Y3 ?_;exact rs (ku g b:)
   refine sk u (Y5 ?_);exact q _ (j+1) wA b (dl k)
  rw [sY] at b;have b:=ku g b;refine ag.exit ?_;obtain⟨M,B,b⟩:=bW b;exact p _ () wA (ku B b:)
 rintro _ b;refine Y6 ?_;exact rt b
theorem MW:∀(n:Nat),(F7 (au:=au) n)
 | 0=>fun b=>by first|cases b|(rw [pK] at b; cases b)
 | n+1=>V9 n (MW n)
def MX (a0:Z9):Option Bool:=pK F0 a0
theorem MY {a0 r}(b:MX a0=some r) (H:af) :At 111 [.agg (Z9.c a0)] H (RT (.a (.d (.bool r))) H):=(MW F0) b H 
def Ep (a0:Z9):Option Bool:=pK F0 a0
def xN  :Option Bool:=some true
def xO (b:Nat) (f:Nat->Option Bool) :Option Bool:=f (b+1)
def xP (a0:(Sl aA)) (b:Nat) (k:Nat->Option Bool):Nat->Nat->Option Bool
 | 0,_=>none
 | p+1,f=>(a0.l[b]?).bind fun q=>bif (decide (((f:Nat):Int)<((q.ay.l.length:Nat):Int))) then((a0.l[b]?).bind fun r=>(r.ay.l[f]?).bind fun g=>(Bi g.aa).bind fun j=>aZ (!(!j)) (F6 g.gr) false fun m=>aZ (!((!j)||(!m))) (MX g.gr) false fun s=>bif (((!j)||(!m))||(!s)) then(some false) else((xP a0 b k p) (f+1))) else(xO b k )
def rK (a0:(Sl aA)) :Nat->Nat->Option Bool
 | 0,_=>none
 | g+1,b=>bif (decide (((b:Nat):Int)<((a0.l.length:Nat):Int))) then((a0.l[b]?).bind fun j=>(Bi j.aa).bind fun f=>aZ (!(!f)) (a0.l[b]?) aA.zero fun k=>bif ((!f)||(decide ((16:Int)<((k.ay.l.length:Nat):Int)))) then(some false) else(xP a0 b ((rK a0 g)) (Option.elim (a0.l[b]?) 1 (fun m=>m.ay.l.length+1)) 0)) else(xN   )
def CG (a0:(Sl aA)):Option Bool:=bif (decide ((16:Int)<((a0.l.length:Nat):Int))) then(some false) else(rK a0 (a0.l.length+1) 0)
theorem CH {a0 w0 r}(b:CG a0=some r) (H:af) :At 64 [.d (Sl.d 2 aA.c w0 a0)] H (RT (.a (.d (.bool r))) H):=by
 unfold CG at b;refine AC.oW 65 [.tmp 2] Tryz.call64 Tryz.func64 ?_;refine Y3 ?_;refine ar fun W p=>Y2 ?_;refine aU aA.c a0 fun X=>Y2 ?_;refine cE b (fun q b=>?_) (fun q b=>?_)
 ·refine Y3 ?_;exact rt b
 refine sk p (aO kN (fun(z:Unit)=>[]) (fun z=>H) (fun z=>xN =some r) ?_ ?_)
 ·intro Y s;refine Y4 ?_;refine bz (tl [0]) (fun(z:Nat×Nat)=>[(3,vi z.2)]) (fun z=>H) (fun z=>z.1) (fun z=>rK a0 z.1 z.2=some r) ((a0.l.length+1),0) b wA ?_;rintro ⟨g,f⟩ b Z t;cases g with
  | zero=>cases b
  | succ g =>
    rw [rK] at b;refine ar fun aa u=>Y3 ?_;refine aU aA.c a0 fun ab=>Y2 ?_;refine cE b (fun v b=>?_) (fun v b=>?_)
    ·refine sk u (aO (tl [0,3]) (fun(z:Unit)=>[]) (fun z=>H) (fun z=>xO f ((rK a0 g)) =some r) ?_ ?_)
     ·intro ad w;refine Y1 ?_;refine ar fun ae y=>Y3 ?_;obtain⟨ah,B,b⟩:=bO b;refine S (ix aA.c f B) (Y2 ?_);obtain⟨ai,C,b⟩:=bO b;refine Sc rfl rfl (mF C) (Y4 ?_);obtain⟨E,F,b⟩:=gO b;refine fJ 23 24 rfl rfl (fun hC=>ix aA.c f (F hC)) ?_;refine Gk 25 ?_;refine Gk 26 ?_;refine bI 27 rfl (fun hC=>dG bT.c E.ay) ?_;refine Gk 28 ?_;refine Y2 ?_
      refine cE b (fun G b=>?_) (fun G b=>?_)
      ·refine Y3 ?_;exact rt b
      refine sk y (Y4 ?_);refine bz (tl [0,3]) (fun(z:Nat×Nat)=>[(4,vi z.2)]) (fun z=>H) (fun z=>z.1) (fun z=>xP a0 f ((rK a0 g)) z.1 z.2=some r) ((Option.elim (a0.l[f]?) 1 (fun j=>j.ay.l.length+1)),0) b wA ?_;rintro ⟨k,m⟩ b aj I;cases k with
      | zero=>cases b
      | succ k =>
        rw [xP] at b;refine ar fun ak J=>Y4 ?_;obtain⟨j,K,b⟩:=bO b;refine S (ix aA.c f K) (Y2 ?_);refine aU bT.c j.ay fun al=>Y2 ?_;refine cE b (fun L b=>?_) (fun L b=>?_)
        ·refine sk J (ar fun am M=>Y4 ?_);obtain⟨ao,N,b⟩:=bO b;refine S (ix aA.c f N) (Y3 ?_);obtain⟨ap,O,b⟩:=bO b;refine S (ix bT.c m O) (Y4 ?_);refine bC 5 _ rfl (kl [0,3,4]) ?_;refine Y3 ?_;obtain⟨aq,P,b⟩:=bO b;refine Sc rfl rfl (mF P) (Y3 ?_);refine Gk 54 ?_;obtain⟨au,Q,b⟩:=gO b;refine dP 55 rfl rfl rfl rfl rfl (fun hC=>MV (Q hC)) ?_;refine Gk 56 ?_
         refine Y3 ?_;refine Gk 60 ?_;obtain⟨av,R,b⟩:=gO b;refine dP 61 rfl rfl rfl rfl rfl (fun hC=>MY (R hC)) ?_;refine Gk 62 ?_;refine Y2 ?_;refine cE b (fun U b=>?_) (fun U b=>?_)
         ·refine Y3 ?_;exact rt b
         refine sk M (Y5 ?_);exact I _ (k,(m+1)) wA b (nS _)
        refine ag.exit ?_;exact w _ () wA b
     rintro _ b;unfold xO at b;refine Y5 ?_;exact t _ (g,(f+1)) wA b (nS _)
    refine ag.exit ?_;exact s _ () wA b
 rintro _ b;unfold xN at b;refine Y3 ?_;exact rt b
def uX (g:aA):List bT->Option (Unit ⊕ Bool)
 | []=>some (Sum.inl ())
 | k::l=>on (g) fun p=>on (k) fun b=>on (eW b.aa) fun f=>aZ (!(!f)) (gW b.gr) false fun j=>aZ (!((!f)||(!j))) (Ep b.gr) false fun m=>bif (((!f)||(!j))||(!m)) then(some (Sum.inr false)) else(uX g (l) )
theorem V_ {a0:Sl aA}{k:Nat}{p:Nat->Option Bool}{j:aA}(q:a0.l[k]?=some j) (m:(Unit ⊕ Bool)->Option Bool) (s:∀(b:Nat) (f:Nat),xO k p =m (Sum.inl ())) (t:∀e:Bool,some e=m (Sum.inr e)):∀(b:Nat) (f:Nat),(0<b/\j.ay.l.length<f+b)->xP a0 k p b f=Option.bind (uX j (j.ay.l.drop f) ) m:=by
 intro b;induction b with
 | zero=>intro f hn; exact absurd hn.1 (by omega)
 | succ b u =>
  intro f hn;rw [xP];refine Q.preB q fun v w=>?_;subst w;by_cases bn:f<v.ay.l.length
  ·obtain⟨y,g⟩:=Qa bn;rw [Q.mz g,uX];refine QT bn ?_;refine Q.lP q fun z r=>?_;refine Q.lP (by first|exact g|(simp only [r]; exact g)|(simp only [r] at g ⊢; exact g)) fun B C=>?_;refine Q.lP rfl fun E F=>?_;refine Q.uM rfl fun G=>?_;refine Q.uM rfl fun H=>?_;refine Q.qw ?_ ?_
   ·all_goals exact t _
   all_goals exact u _ ⟨by omega,by omega⟩
  rw [dL (by omega),uX];refine QF bn ?_;exact s b f
def uY :List aA->Option (Unit ⊕ Bool)
 | []=>some (Sum.inl ())
 | b::g=>on (b) fun j=>on (eW j.aa) fun f=>on (bif !(!f) then b else aA.zero) fun k=>bif ((!f)||(decide ((16:Int)<((k.ay.l.length:Nat):Int)))) then(some (Sum.inr false)) else(Option.bind (uX b b.ay.l ) fun m=>match m with|Sum.inl _=>(on (()) fun _=>uY  (g) )|Sum.inr p=>(some (Sum.inr p)))
theorem Wa {a0:Sl aA}(j:(Unit ⊕ Bool)->Option Bool) (p:∀(b:Nat) (f:Nat),xN   =j (Sum.inl ())) (k:∀e:Bool,some e=j (Sum.inr e)):∀(b:Nat) (f:Nat),(0<b/\a0.l.length<f+b)->rK a0 b f=Option.bind (uY  (a0.l.drop f) ) j:=by
 intro b;induction b with
 | zero=>intro f hn; exact absurd hn.1 (by omega)
 | succ b q =>
  intro f hn;rw [rK];by_cases bn:f<a0.l.length
  ·obtain⟨v,g⟩:=Qa bn;rw [Q.mz g,uY];refine QT bn ?_;refine Q.lP g fun w y=>?_;refine Q.lP rfl fun z B=>?_;refine Q.D1 g fun C E=>?_;refine Q.qw ?_ ?_
   ·all_goals exact k _
   refine Q.uO fun r m=>?_;refine V_ g r ?_ ?_ _ _ ⟨by rw [g]; exact Nat.succ_pos _,by rw [g]; simp only [Option.elim]; omega⟩
   ·intro F G;refine Qe (m _) ?_;try dsimp only
    refine Q.uN fun s t=>?_;have u:xO f (rK a0 b) =s ():=by
     refine Qe (t _) ?_;unfold xO;all_goals exact q _ ⟨by omega,by omega⟩
    all_goals exact u
   intro H;refine Qe (m _) ?_;try dsimp only
   all_goals exact k _
  rw [dL (by omega),uY];refine QF bn ?_;exact p b f
def sZ (a0:(Sl aA)):Option Bool:=bif (decide ((16:Int)<((a0.l.length:Nat):Int))) then(some false) else(Option.bind (uY  a0.l ) fun b=>match b with|Sum.inl _=>(on (()) fun _=>some true)|Sum.inr f=>(some f))
theorem CI (a0:(Sl aA)):CG a0=sZ a0:=by
 unfold CG sZ;refine Qs ?_;refine Q.qw ?_ ?_
 ·all_goals rfl
 refine Q.uO fun f b=>?_;refine Wa  f ?_ ?_ _ _ ⟨Nat.succ_pos _,by omega⟩
 ·intro l m;refine Qe (b _) ?_;try dsimp only
  refine Q.uN fun g j=>?_;have k:xN  =g ():=by
   refine Qe (j _) ?_;unfold xN;all_goals rfl
  all_goals exact k
 intro p;refine Qe (b _) ?_;try dsimp only
 all_goals rfl
def sS (a0:aL):List Int->Nat->Option (Unit ⊕ Bool)
 | [],b=>some (Sum.inl ())
 | f::k,b=>on (f) fun j=>on (bif (!decide (j=(1:Int))) then f else(0:Int)) fun m=>bif ((!decide (j=(1:Int)))&&(!decide (m=(2:Int)))) then(some (Sum.inr false)) else(on (bif (decide ((0:Int)<((b:Nat):Int))) then f else(0:Int)) fun g=>aZ (((decide ((0:Int)<((b:Nat):Int)))&&(decide (g=(1:Int))))) (sq ((b:Nat):Int) (1:Int)) (0:Int) fun p=>aZ (((decide ((0:Int)<((b:Nat):Int)))&&(decide (g=(1:Int))))) (c_ a0.aH.l p) (0:Int) fun q=>bif (((decide ((0:Int)<((b:Nat):Int)))&&(decide (g=(1:Int))))&&(decide (q=(1:Int)))) then(some (Sum.inr false)) else(sS a0 (k) (b+1) ))
def wV (a0:aL):Option Bool:=on (eW a0.aa) fun b=>bif ((!b)||(decide ((24:Int)<((a0.aH.l.length:Nat):Int)))) then(some false) else(Option.bind (sS a0 a0.aH.l 0 ) fun f=>match f with|Sum.inl _=>(on (()) fun _=>some true)|Sum.inr g=>(some g))
theorem MZ {a0 r}(b:wV a0=some r) (H:af) :At 112 [.agg (aL.c a0)] H (RT (.a (.d (.bool r))) H):=by
 unfold wV at b;refine AC.oW 54 [.tmp 2] Tryz.call112 Tryz.func112 ?_;refine Y4 ?_;refine ar fun M p=>Y3 ?_;obtain⟨N,q,b⟩:=dQ b;refine Sc rfl rfl (mF q) (Y3 ?_);refine Gk 9 ?_;refine bI 10 rfl (fun hC=>dG (bL .i64) a0.aH) ?_;refine Gk 11 ?_;refine Y2 ?_;refine cE b (fun s b=>?_) (fun s b=>?_)
 ·refine Y3 ?_;exact rt b
 refine sk p (aO kN (fun(z:Unit)=>[]) (fun z=>H) (fun z=>(some true)=some r) ?_ ?_)
 ·intro O t;refine Y4 ?_;obtain⟨m,k,b⟩:=bZ b;refine bz (tl [1]) (fun(z:Nat)=>[(3,vi z)]) (fun z=>H) (fun z=>a0.aH.l.length-z) (fun z=>Option.bind (sS a0 (a0.aH.l.drop z) z ) m=some r) 0 b wA ?_;rintro g b P u;refine ar fun Q v=>Y4 ?_;refine aU (bL .i64) a0.aH fun R=>Y2 ?_
  refine ag.bJ (fun l=>Option.bind (sS a0 l g ) m=some r) b rfl (fun U j w b=>?_) (fun w b=>?_)
  ·rw [sS] at b;refine sk v (ar fun W y=>Y1 ?_);refine ar fun X B=>Y4 ?_;obtain⟨Y,C,b⟩:=vO j b;refine S (ix (bL .i64) g C) (Y4 ?_);refine Gk 28 ?_;refine Y1 ?_;obtain⟨Z,E,b⟩:=ee (fun _=>j) b;refine fJ 29 30 rfl rfl (fun hC=>ix (bL .i64) g (E hC)) ?_;refine Gk 31 ?_;refine Gk 32 ?_;refine Y2 ?_;refine cO b (fun F b=>?_) (fun F b=>?_)
   ·refine Y3 ?_;exact rs (ku k b:)
   refine sk B (Y5 ?_);refine Gk 38 ?_;refine Y1 ?_;obtain⟨aa,G,b⟩:=ee (fun _=>j) b;refine fJ 39 40 rfl rfl (fun hC=>ix (bL .i64) g (G hC)) ?_;refine Gk 41 ?_;refine Gk 42 ?_;refine Y3 ?_;refine Gk 46 ?_;refine Y1 ?_;obtain⟨ab,I,b⟩:=fz b;refine bI 48 rfl (fun hC=>Iv (I hC)) ?_;obtain⟨ad,J,b⟩:=fz b
   refine fJ 47 49 rfl rfl (fun hC=>iV (f:=(bL .i64)) (TK rfl) rfl (TK rfl) rfl rfl rfl (J hC)) ?_;refine Gk 50 ?_;refine Gk 51 ?_;refine Y2 ?_;refine cO b (fun K b=>?_) (fun K b=>?_)
   ·refine Y3 ?_;exact rs (ku k b:)
   refine sk y (Y5 ?_);exact u _ (g+1) wA b (dl j)
  rw [sS] at b;have b:=ku k b;refine ag.exit ?_;obtain⟨ae,L,b⟩:=bW b;exact t _ () wA (ku L b:)
 rintro _ b;refine Y3 ?_;exact rt b
end Go.Proofs
