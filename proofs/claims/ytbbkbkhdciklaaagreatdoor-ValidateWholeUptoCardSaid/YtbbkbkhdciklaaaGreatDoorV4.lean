import Derived.Test.YtbbkbkhdciklaaaGreatDoorV3
set_option maxRecDepth 100000
set_option maxHeartbeats 2000000
set_option linter.unusedVariables false
set_option linter.unusedSimpArgs false
namespace Go.Proofs
open Go Go.Ab
open aI aq ag dR fO
attribute [local irreducible] aI aH ag aq
variable {ak:bP}
variable {gK:Nat}
def qi :List aT->Option (Unit ⊕ Bool)
 | []=>some (Sum.inl ())
 | g::k=>on (g) fun l=>on (fB l.aa) fun b=>on (bif !(!b) then g else aT.zero) fun m=>a_ (!(!b)) (su m.aG) false fun f=>on (bif !((!b)||(!f)) then g else aT.zero) fun p=>a_ (!((!b)||(!f))) (sg p.aM) false fun j=>on (bif !(((!b)||(!f))||(!j)) then g else aT.zero) fun q=>a_ (!(((!b)||(!f))||(!j))) (qg q.bS) false fun r=>bif ((((!b)||(!f))||(!j))||(!r)) then(some (Sum.inr false)) else(qi  (k) )
def qj (b:(Sl aT)):Option Bool:=bif ((decide (((b.l.length:Nat):Int)<(1:Int)))||(decide ((64:Int)<((b.l.length:Nat):Int)))) then(some false) else(Option.bind (qi  b.l ) fun f=>match f with|Sum.inl _=>(on (()) fun _=>some true)|Sum.inr g=>(some g))
theorem Mw {f w0 r}(b:qj f=some r) (H:ah) :At 71 [.d (Sl.d 5 aT.c w0 f)] H (RT (.a (.d (.bool r))) H):=by
 unfold qj at b;refine AC.oW 52 [.tmp 2] Tryz.call71 Tryz.func71 ?_;refine Y3 ?_;refine ar fun M q=>Y2 ?_;refine aV aT.c f fun N=>Y3 ?_;refine bE 8 rfl (fun hC=>dW aT.c f) ?_;refine Gk 9 ?_;refine Y2 ?_;refine cE b (fun s b=>?_) (fun s b=>?_)
 ·refine Y3 ?_;exact rt b
 refine sk q (aN kN (fun(z:Unit)=>[]) (fun z=>H) (fun z=>(some true)=some r) ?_ ?_)
 ·intro O t;refine Y4 ?_;obtain⟨m,p,b⟩:=b5 b;refine bx (tl [0]) (fun(z:Nat)=>[(3,vi z)]) (fun z=>H) (fun z=>f.l.length-z) (fun z=>Option.bind (qi  (f.l.drop z) ) m=some r) 0 b wA ?_;rintro g b P u;try dsimp only at b
  refine ar fun Q v=>Y3 ?_;refine aV aT.c f fun R=>Y2 ?_;refine ag.bW (fun l=>Option.bind (qi  l ) m=some r) b rfl (fun U j k b=>?_) (fun k b=>?_)
  ·rw [qi] at b;try dsimp only at k
   have W:=oD k;refine sk v (ar fun X w=>Y4 ?_);obtain⟨Y,y,b⟩:=vO j b;refine S (ix aT.c g y) (Y2 ?_);obtain⟨Z,B,b⟩:=dm b;refine Sc rfl rfl (gV B) (Y4 ?_);obtain⟨aa,C,b⟩:=fo (fun _=>j) b;refine fc 26 27 rfl rfl (fun hC=>ix aT.c g (C hC)) ?_;refine Gk 28 ?_;refine Gk 29 ?_;obtain⟨ab,E,b⟩:=fG b
   refine dx 30 rfl rfl rfl rfl rfl (fun hC=>Mv (E hC)) ?_;refine Gk 31 ?_;refine Y4 ?_;obtain⟨ad,F,b⟩:=fo (fun _=>j) b;refine fc 35 36 rfl rfl (fun hC=>ix aT.c g (F hC)) ?_;refine Gk 37 ?_;refine Gk 38 ?_;obtain⟨ae,G,b⟩:=fG b;refine dx 39 rfl rfl rfl rfl rfl (fun hC=>Gc (G hC)) ?_;refine Gk 40 ?_;refine Y4 ?_;obtain⟨af,I,b⟩:=fo (fun _=>j) b
   refine fc 44 45 rfl rfl (fun hC=>ix aT.c g (I hC)) ?_;refine Gk 46 ?_;refine Gk 47 ?_;obtain⟨ai,J,b⟩:=AG (Cu _) b;refine dx 48 rfl rfl rfl rfl rfl (fun hC=>Ct (J hC)) ?_;refine Gk 49 ?_;refine Y2 ?_;refine cO b (fun K b=>?_) (fun K b=>?_)
   ·refine Y3 ?_;exact rs (ku p b:)
   refine sk w (Y5 ?_);exact u _ (g+1) wA b (dl j)
  rw [qi] at b;have b:=ku p b;try dsimp only at b
  refine ag.exit ?_;obtain⟨aj,L,b⟩:=b8 b;exact t _ () wA (ku L b:)
 rintro _ b;try dsimp only at b
 refine Y3 ?_;exact rt b
def qk (f:Bool):List bC->Option (Unit ⊕ Bool)
 | []=>some (Sum.inl ())
 | g::k=>on (g) fun m=>on (fB m.aa) fun b=>on (bif !(!b) then g else bC.zero) fun p=>a_ (!(!b)) (qg p.bS) false fun j=>on (bif (!((!b)||(!j))&&f) then g else bC.zero) fun q=>bif (((!b)||(!j))||(f&&(decide ((0:Int)<((q.bS.l.length:Nat):Int))))) then(some (Sum.inr false)) else(qk f (k) )
def ql (b:(Sl bC)) (f:Bool):Option Bool:=bif ((decide (((b.l.length:Nat):Int)<(1:Int)))||(decide ((64:Int)<((b.l.length:Nat):Int)))) then(some false) else(Option.bind (qk f b.l ) fun g=>match g with|Sum.inl _=>(on (()) fun _=>some true)|Sum.inr j=>(some j))
theorem Mx {f g w0 r}(b:ql f g=some r) (H:ah) :At 72 [.d (Sl.d 2 bC.c w0 f),.d (.bool g)] H (RT (.a (.d (.bool r))) H):=by
 unfold ql at b;refine AC.oW 48 [.tmp 4] Tryz.call72 Tryz.func72 ?_;refine Y3 ?_;refine ar fun L s=>Y2 ?_;refine aV bC.c f fun M=>Y3 ?_;refine bE 10 rfl (fun hC=>dW bC.c f) ?_;refine Gk 11 ?_;refine Y2 ?_;refine cE b (fun t b=>?_) (fun t b=>?_)
 ·refine Y3 ?_;exact rt b
 refine sk s (aN kN (fun(z:Unit)=>[]) (fun z=>H) (fun z=>(some true)=some r) ?_ ?_)
 ·intro N u;refine Y4 ?_;obtain⟨p,q,b⟩:=b5 b;refine bx (tl [0,1]) (fun(z:Nat)=>[(5,vi z)]) (fun z=>H) (fun z=>f.l.length-z) (fun z=>Option.bind (qk g (f.l.drop z) ) p=some r) 0 b wA ?_;rintro j b O v;try dsimp only at b
  refine ar fun P w=>Y3 ?_;refine aV bC.c f fun Q=>Y2 ?_;refine ag.bW (fun l=>Option.bind (qk g l ) p=some r) b rfl (fun R k m b=>?_) (fun m b=>?_)
  ·rw [qk] at b;try dsimp only at m
   have U:=oD m;refine sk w (ar fun W y=>Y4 ?_);obtain⟨X,B,b⟩:=vO k b;refine S (ix bC.c j B) (Y2 ?_);obtain⟨Y,C,b⟩:=dm b;refine Sc rfl rfl (gV C) (Y4 ?_);obtain⟨Z,E,b⟩:=fo (fun _=>k) b;refine fc 28 29 rfl rfl (fun hC=>ix bC.c j (E hC)) ?_;refine Gk 30 ?_;refine Gk 31 ?_;obtain⟨aa,F,b⟩:=AG (Cu _) b
   refine dx 32 rfl rfl rfl rfl rfl (fun hC=>Ct (F hC)) ?_;refine Gk 33 ?_;refine Y3 ?_;refine Gk 37 ?_;refine Y2 ?_;obtain⟨G,I,b⟩:=fo (fun _=>k) b;refine fc 39 40 rfl rfl (fun hC=>ix bC.c j (I hC)) ?_;refine Gk 41 ?_;refine Gk 42 ?_;refine bE 43 rfl (fun hC=>dW aP.c G.bS) ?_;refine Gk 44 ?_;refine bE 38 rfl (fun hC=>f_ rfl rfl rfl) ?_;refine Y2 ?_
   refine cO b (fun J b=>?_) (fun J b=>?_)
   ·refine Y3 ?_;exact rs (ku q b:)
   refine sk y (Y5 ?_);exact v _ (j+1) wA b (dl k)
  rw [qk] at b;have b:=ku q b;try dsimp only at b
  refine ag.exit ?_;obtain⟨ab,K,b⟩:=b8 b;exact u _ () wA (ku K b:)
 rintro _ b;try dsimp only at b
 refine Y3 ?_;exact rt b
def vX :List Bs->Unit ⊕ Bool
 | []=>Sum.inl ()
 | b::f=>on (b) fun g=>on (fB g) fun j=>bif (!j) then(Sum.inr false) else(vX  (f) )
def xU (b:ay):Option Bool:=on (fB b.aa) fun f=>a_ (!(!f)) (qg b.bS) false fun g=>bif (((!f)||(!g))||(decide ((64:Int)<((b.cN.l.length:Nat):Int)))) then(some false) else(on (vX  b.cN.l ) fun j=>match j with|Sum.inl _=>(on (()) fun _=>bif (decide (b.aj=(1:Int))) then((qj b.bA).bind fun k=>some ((k&&(decide (((b.bV.l.length:Nat):Int)=(0:Int))))&&(decide (((b.bG.l.length:Nat):Int)=(0:Int))))) else(bif (decide (b.aj=(2:Int))) then(a_ ((decide (((b.cN.l.length:Nat):Int)=(0:Int)))) (qj b.bA) false fun m=>some ((((decide (((b.cN.l.length:Nat):Int)=(0:Int)))&&m)&&(decide (((b.bV.l.length:Nat):Int)=(0:Int))))&&(decide (((b.bG.l.length:Nat):Int)=(0:Int))))) else(bif (decide (b.aj=(3:Int))) then(a_ (((decide (((b.cN.l.length:Nat):Int)=(0:Int)))&&(decide (((b.bA.l.length:Nat):Int)=(0:Int))))) (ql b.bV true) false fun p=>some ((((decide (((b.cN.l.length:Nat):Int)=(0:Int)))&&(decide (((b.bA.l.length:Nat):Int)=(0:Int))))&&p)&&(decide (((b.bG.l.length:Nat):Int)=(0:Int))))) else(bif (decide (b.aj=(4:Int))) then(a_ (((decide (((b.cN.l.length:Nat):Int)=(0:Int)))&&(decide (((b.bA.l.length:Nat):Int)=(0:Int))))) (ql b.bV false) false fun q=>some ((((decide (((b.cN.l.length:Nat):Int)=(0:Int)))&&(decide (((b.bA.l.length:Nat):Int)=(0:Int))))&&q)&&(decide (((b.bG.l.length:Nat):Int)=(0:Int))))) else(bif (decide (b.aj=(5:Int))) then(a_ (((((decide (((b.cN.l.length:Nat):Int)=(0:Int)))&&(decide (((b.bA.l.length:Nat):Int)=(0:Int))))&&(decide (((b.bV.l.length:Nat):Int)=(0:Int))))&&(decide ((0:Int)<((b.bG.l.length:Nat):Int))))) (su b.bG) false fun r=>some (((((decide (((b.cN.l.length:Nat):Int)=(0:Int)))&&(decide (((b.bA.l.length:Nat):Int)=(0:Int))))&&(decide (((b.bV.l.length:Nat):Int)=(0:Int))))&&(decide ((0:Int)<((b.bG.l.length:Nat):Int))))&&r)) else(some false))))))|Sum.inr s=>(some s))
theorem VR {g r}(b:xU g=some r) (H:ah) :At 30 [.agg (ay.c g)] H (RT (.a (.d (.bool r))) H):=by
 unfold xU at b;refine AC.oW 129 [.tmp 2] Tryz.call30 Tryz.func30 ?_;refine Y4 ?_;refine ar fun ae B=>Y3 ?_;obtain⟨af,C,b⟩:=dD b;refine Sc rfl rfl (gV C) (Y3 ?_);refine Gk 13 ?_;obtain⟨ai,E,b⟩:=I7 (Cu _) b;refine dx 14 rfl rfl rfl rfl rfl (fun hC=>Ct (E hC)) ?_;refine Gk 15 ?_;refine Y3 ?_;refine Gk 19 ?_;refine bE 20 rfl (fun hC=>dW aW g.cN) ?_
 refine Gk 21 ?_;refine Y2 ?_;refine cE b (fun F b=>?_) (fun F b=>?_)
 ·refine Y3 ?_;exact rt b
 refine sk B ?_
 refine aN (tl [1]) (fun(z:Unit)=>[]) (fun z=>H) (fun z=>(bif (decide (g.aj=(1:Int))) then((qj g.bA).bind fun k=>some ((k&&(decide (((g.bV.l.length:Nat):Int)=(0:Int))))&&(decide (((g.bG.l.length:Nat):Int)=(0:Int))))) else(bif (decide (g.aj=(2:Int))) then(a_ ((decide (((g.cN.l.length:Nat):Int)=(0:Int)))) (qj g.bA) false fun m=>some ((((decide (((g.cN.l.length:Nat):Int)=(0:Int)))&&m)&&(decide (((g.bV.l.length:Nat):Int)=(0:Int))))&&(decide (((g.bG.l.length:Nat):Int)=(0:Int))))) else(bif (decide (g.aj=(3:Int))) then(a_ (((decide (((g.cN.l.length:Nat):Int)=(0:Int)))&&(decide (((g.bA.l.length:Nat):Int)=(0:Int))))) (ql g.bV true) false fun p=>some ((((decide (((g.cN.l.length:Nat):Int)=(0:Int)))&&(decide (((g.bA.l.length:Nat):Int)=(0:Int))))&&p)&&(decide (((g.bG.l.length:Nat):Int)=(0:Int))))) else(bif (decide (g.aj=(4:Int))) then(a_ (((decide (((g.cN.l.length:Nat):Int)=(0:Int)))&&(decide (((g.bA.l.length:Nat):Int)=(0:Int))))) (ql g.bV false) false fun q=>some ((((decide (((g.cN.l.length:Nat):Int)=(0:Int)))&&(decide (((g.bA.l.length:Nat):Int)=(0:Int))))&&q)&&(decide (((g.bG.l.length:Nat):Int)=(0:Int))))) else(bif (decide (g.aj=(5:Int))) then(a_ (((((decide (((g.cN.l.length:Nat):Int)=(0:Int)))&&(decide (((g.bA.l.length:Nat):Int)=(0:Int))))&&(decide (((g.bV.l.length:Nat):Int)=(0:Int))))&&(decide ((0:Int)<((g.bG.l.length:Nat):Int))))) (su g.bG) false fun t=>some (((((decide (((g.cN.l.length:Nat):Int)=(0:Int)))&&(decide (((g.bA.l.length:Nat):Int)=(0:Int))))&&(decide (((g.bV.l.length:Nat):Int)=(0:Int))))&&(decide ((0:Int)<((g.bG.l.length:Nat):Int))))&&t)) else(some false))))))=some r) ?_ ?_
 ·intro ak G;refine Y4 ?_;obtain⟨u,v,b⟩:=b8 b;refine bx (tl [1]) (fun(z:Nat)=>[(3,vi z)]) (fun z=>H) (fun z=>g.cN.l.length-z) (fun z=>u (vX  (g.cN.l.drop z) )=some r) 0 b wA ?_;rintro w b al I;try dsimp only at b
  refine ar fun am J=>Y4 ?_;refine aV aW g.cN fun an=>Y2 ?_;refine ag.bW (fun l=>u (vX  l )=some r) b rfl (fun ao y j b=>?_) (fun j b=>?_)
  ·rw [vX] at b;try dsimp only at j
   have ap:=oD j;refine sk J (ar fun av K=>Y5 ?_);obtain⟨aw,L,b⟩:=vP y b;refine S (ix aW w L) (Y1 ?_);obtain⟨ax,M,b⟩:=eL b;refine Sc rfl rfl (gV M) (Y2 ?_);refine cP b (fun N b=>?_) (fun N b=>?_)
   ·refine Y3 ?_;exact rs (ku v b:)
   refine sk K (Y5 ?_);exact I _ (w+1) wA b (dl y)
  rw [vX] at b;have b:=ku v b;try dsimp only at b
  refine ag.exit ?_;obtain⟨aA,O,b⟩:=b8 b;exact G _ () wA (ku O b:)
 rintro _ b;try dsimp only at b
 refine Y3 ?_;refine aH.s0 (mv (f:=aW) (s:=g.cN) (TK rfl) rfl rfl rfl) rfl ?_;refine Y3 ?_;refine aH.s0 (mv (f:=aT.c) (s:=g.bA) (TK rfl) rfl rfl rfl) rfl ?_;refine Y3 ?_;refine aH.s0 (mv (f:=bC.c) (s:=g.bV) (TK rfl) rfl rfl rfl) rfl ?_;refine Y3 ?_;refine aH.s0 (mv (f:=az.c) (s:=g.bG) (TK rfl) rfl rfl rfl) rfl ?_;refine Y6 ?_;refine ar fun aB P=>Y9 ?_
 refine cE b (fun Q b=>?_) (fun Q b=>?_)
 ·refine Y3 ?_;obtain⟨k,R,b⟩:=bz b;refine Sc rfl rfl (Mw R) (Y8 ?_);exact rt b
 refine Y4 ?_;refine cE b (fun U b=>?_) (fun U b=>?_)
 ·refine Y4 ?_;refine Gk 71 ?_;obtain⟨m,W,b⟩:=dV b;refine dx 72 rfl rfl rfl rfl rfl (fun hC=>Mw (W hC)) ?_;refine Y9 ?_;exact rt b
 refine Y4 ?_;refine cE b (fun X b=>?_) (fun X b=>?_)
 ·refine Y7 ?_;refine Gk 88 ?_;obtain⟨p,Y,b⟩:=dV b;refine dx 89 rfl rfl rfl rfl rfl (fun hC=>Mx (Y hC)) ?_;refine Y6 ?_;exact rt b
 refine Y4 ?_;refine cE b (fun Z b=>?_) (fun Z b=>?_)
 ·refine Y7 ?_;refine Gk 102 ?_;obtain⟨q,aa,b⟩:=dV b;refine dx 103 rfl rfl rfl rfl rfl (fun hC=>Mx (aa hC)) ?_;refine Y6 ?_;exact rt b
 refine Y4 ?_;refine cE b (fun ab b=>?_) (fun ab b=>?_)
 ·refine jM ?_;refine Gk 119 ?_;refine bE 120 rfl (fun hC=>dW az.c g.bG) ?_;refine Gk 121 ?_;refine Y3 ?_;refine Gk 125 ?_;obtain⟨t,ad,b⟩:=dV b;refine dx 126 rfl rfl rfl rfl rfl (fun hC=>Mv (ad hC)) ?_;refine Y3 ?_;exact rt b
 refine sk P (Y3 ?_);exact rt b
def qm :List ay->Option (Unit ⊕ Bool)
 | []=>some (Sum.inl ())
 | b::f=>on (b) fun g=>(xU g).bind fun j=>bif (!j) then(some (Sum.inr false)) else(qm  (f) )
def xV (b:an):Option Bool:=bif ((decide (((b.aA.l.length:Nat):Int)<(1:Int)))||(decide ((64:Int)<((b.aA.l.length:Nat):Int)))) then(some false) else(Option.bind (qm  b.aA.l ) fun f=>match f with|Sum.inl _=>(on (()) fun _=>some true)|Sum.inr g=>(some g))
theorem VS {f r}(b:xV f=some r) (H:ah) :At 14 [.agg (an.c f)] H (RT (.a (.d (.bool r))) H):=by
 unfold xV at b;refine AC.oW 28 [.tmp 2] Tryz.call14 Tryz.func14 ?_;refine Y4 ?_;refine ar fun F q=>Y3 ?_;refine aV ay.c f.aA fun G=>Y3 ?_;refine Gk 9 ?_;refine bE 10 rfl (fun hC=>dW ay.c f.aA) ?_;refine Gk 11 ?_;refine Y2 ?_;refine cE b (fun s b=>?_) (fun s b=>?_)
 ·refine Y3 ?_;exact rt b
 refine sk q (aN kN (fun(z:Unit)=>[]) (fun z=>H) (fun z=>(some true)=some r) ?_ ?_)
 ·intro I t;refine Y4 ?_;obtain⟨j,k,b⟩:=b5 b;refine bx (tl [1]) (fun(z:Nat)=>[(3,vi z)]) (fun z=>H) (fun z=>f.aA.l.length-z) (fun z=>Option.bind (qm  (f.aA.l.drop z) ) j=some r) 0 b wA ?_;rintro m b J u;try dsimp only at b
  refine ar fun K v=>Y4 ?_;refine aV ay.c f.aA fun L=>Y2 ?_;refine ag.bW (fun l=>Option.bind (qm  l ) j=some r) b rfl (fun M p g b=>?_) (fun g b=>?_)
  ·rw [qm] at b;try dsimp only at g
   have N:=oD g;refine sk v (ar fun O w=>Y5 ?_);obtain⟨P,y,b⟩:=vO p b;refine S (ix ay.c m y) (Y1 ?_);obtain⟨Q,B,b⟩:=aQ b;refine Sc rfl rfl (VR B) (Y2 ?_);refine cO b (fun C b=>?_) (fun C b=>?_)
   ·refine Y3 ?_;exact rs (ku k b:)
   refine sk w (Y5 ?_);exact u _ (m+1) wA b (dl p)
  rw [qm] at b;have b:=ku k b;try dsimp only at b
  refine ag.exit ?_;obtain⟨R,E,b⟩:=b8 b;exact t _ () wA (ku E b:)
 rintro _ b;try dsimp only at b
 refine Y3 ?_;exact rt b
def qn (b:af->Option Bool):List af->Option (Unit ⊕ Bool)
 | []=>some (Sum.inl ())
 | f::g=>on (f) fun j=>(b j).bind fun k=>bif (!k) then(some (Sum.inr false)) else(qn b (g) )
def mK:Nat->af->Option Bool
 | 0,_=>none
 | n+1,b=>Option.bind (qn (mK n) b.aB.l ) fun f=>match f with|Sum.inl _=>(on (()) fun _=>some (!decide (b.aj=(7:Int))))|Sum.inr g=>(some g)
def Ge (n:Nat):Prop:=∀{a0:af}   {r:Bool},mK n a0=some r->∀(H:ah),At 78 [.agg (af.c a0)] H (RT (.a (.d (.bool r))) H)
theorem VT (n:Nat) (q:Ge (ak:=ak) n):Ge (ak:=ak) (n+1):=by
 intro f   r b H;rw [mK] at b;refine AC.oW 21 [.tmp 2] Tryz.call78 Tryz.func78 ?_;refine Y4 ?_;refine aN (tl [1]) (fun(z:Unit)=>[]) (fun z=>H) (fun z=>(some (!decide (f.aj=(7:Int))))=some r) ?_ ?_
 ·intro E s;refine Y4 ?_;obtain⟨j,k,b⟩:=b5 b;refine bx (tl [1]) (fun(z:Nat)=>[(3,vi z)]) (fun z=>H) (fun z=>f.aB.l.length-z) (fun z=>Option.bind (qn (mK n) (f.aB.l.drop z) ) j=some r) 0 b wA ?_;rintro m b F t;try dsimp only at b
  refine ar fun G u=>Y3 ?_;refine s0 (cA (TK rfl) rfl rfl (af.dX _)) rfl ?_;refine aV af.c f.aB fun I=>Y2 ?_;refine ag.bW (fun l=>Option.bind (qn (mK n) l ) j=some r) b rfl (fun J p g b=>?_) (fun g b=>?_)
  ·rw [qn] at b;try dsimp only at g
   have K:=oD g;refine sk u (ar fun L v=>Y3 ?_);refine s0 (cA (TK rfl) rfl rfl (af.dX _)) rfl ?_;refine Y1 ?_;obtain⟨M,w,b⟩:=vO p b;refine S (ix af.c m w) (Y1 ?_);obtain⟨N,y,b⟩:=aQ b;refine Sc rfl rfl (q y) (Y2 ?_);refine cO b (fun B b=>?_) (fun B b=>?_)
   ·refine Y3 ?_;exact rs (ku k b:)
   refine sk v (Y5 ?_);exact t _ (m+1) wA b (dl p)
  rw [qn] at b;have b:=ku k b;try dsimp only at b
  refine ag.exit ?_;obtain⟨O,C,b⟩:=b8 b;exact s _ () wA (ku C b:)
 rintro _ b;try dsimp only at b
 refine Y6 ?_;exact rt b
theorem My:∀(n:Nat),(Ge (ak:=ak) n)
 | 0=>fun b=>by first|cases b|(rw [mK] at b; cases b)
 | n+1=>VT n (My n)
def VU (b:af):Option Bool:=mK F0 b
theorem VV {b r}(f:VU b=some r) (H:ah) :At 78 [.agg (af.c b)] H (RT (.a (.d (.bool r))) H):=(My F0) f H 
def JE (b:af):Option Bool:=mK F0 b
def qo :List bN->Option (Unit ⊕ Bool)
 | []=>some (Sum.inl ())
 | k::l=>on (k) fun b=>on (fB b.aa) fun f=>a_ (!(!f)) (sg b.aM) false fun g=>a_ (!((!f)||(!g))) (qd b.dZ) false fun j=>a_ (!(((!f)||(!g))||(!j))) (JE b.dZ) false fun m=>bif ((((!f)||(!g))||(!j))||(!m)) then(some (Sum.inr false)) else(bif ((!b.eC)&&(!decide (b.dZ.aj=(0:Int)))) then(some (Sum.inr false)) else(qo  (l) ))
def xW (b:(Sl bN)):Option Bool:=Option.bind (qo  b.l ) fun f=>match f with|Sum.inl _=>(on (()) fun _=>some (decide (((b.l.length:Nat):Int)<=(16:Int))))|Sum.inr g=>(some g)
theorem VX {f w0 r}(b:xW f=some r) (H:ah) :At 32 [.d (Sl.d 9 bN.c w0 f)] H (RT (.a (.d (.bool r))) H):=by
 unfold xW at b;refine AC.oW 49 [.tmp 2] Tryz.call32 Tryz.func32 ?_;refine Y3 ?_;refine aN (tl [0]) (fun(z:Unit)=>[]) (fun z=>H) (fun z=>(some (decide (((f.l.length:Nat):Int)<=(16:Int))))=some r) ?_ ?_
 ·intro J q;refine Y4 ?_;obtain⟨k,g,b⟩:=b5 b;refine bx (tl [0]) (fun(z:Nat)=>[(3,vi z)]) (fun z=>H) (fun z=>f.l.length-z) (fun z=>Option.bind (qo  (f.l.drop z) ) k=some r) 0 b wA ?_;rintro m b K s;try dsimp only at b
  refine ar fun L t=>Y3 ?_;refine aV bN.c f fun M=>Y2 ?_;refine ag.bW (fun l=>Option.bind (qo  l ) k=some r) b rfl (fun N p j b=>?_) (fun j b=>?_)
  ·rw [qo] at b;try dsimp only at j
   have O:=oD j;refine sk t (ar fun P u=>Y4 ?_);obtain⟨Q,v,b⟩:=vO p b;refine S (ix bN.c m v) (Y4 ?_);refine bl 4 _ rfl (kl [0,3]) ?_;refine ar fun R w=>Y3 ?_;obtain⟨U,y,b⟩:=dm b;refine Sc rfl rfl (gV y) (Y3 ?_);refine Gk 20 ?_;obtain⟨W,B,b⟩:=fG b;refine dx 21 rfl rfl rfl rfl rfl (fun hC=>Gc (B hC)) ?_;refine Gk 22 ?_;refine Y3 ?_
   refine Gk 26 ?_;obtain⟨X,C,b⟩:=fG b;refine dx 27 rfl rfl rfl rfl rfl (fun hC=>Cp (C hC)) ?_;refine Gk 28 ?_;refine Y3 ?_;refine Gk 32 ?_;obtain⟨Y,E,b⟩:=fG b;refine dx 33 rfl rfl rfl rfl rfl (fun hC=>VV (E hC)) ?_;refine Gk 34 ?_;refine Y2 ?_;refine cO b (fun F b=>?_) (fun F b=>?_)
   ·refine Y3 ?_;exact rs (ku g b:)
   refine sk w (Y6 ?_);refine Gk 41 ?_;refine Gk 42 ?_;refine Gk 43 ?_;refine Y2 ?_;refine cO b (fun G b=>?_) (fun G b=>?_)
   ·refine Y3 ?_;exact rs (ku g b:)
   refine sk u (Y5 ?_);exact s _ (m+1) wA b (dl p)
  rw [qo] at b;have b:=ku g b;try dsimp only at b
  refine ag.exit ?_;obtain⟨Z,I,b⟩:=b8 b;exact q _ () wA (ku I b:)
 rintro _ b;try dsimp only at b
 refine Y2 ?_;refine aV bN.c f fun aa=>Y3 ?_;exact rt b
def Cv (b:Bs):Bool:=on (fB b) fun f=>(f&&(!(b==([111,110]:Bs))))
theorem Mz {f r}(b:some (Cv f)=some r) (H:ah) :At 34 [.d (.str f)] H (RT (.a (.d (.bool r))) H):=by
 unfold Cv at b;refine AC.oW 9 [.tmp 2] Tryz.call34 Tryz.func34 ?_;refine Y5 ?_;obtain⟨j,g,b⟩:=eL b;refine Sc rfl rfl (gV g) (Y2 ?_);refine Gk 6 ?_;refine Y3 ?_;exact rt b
def qp :List aO->Option (Unit ⊕ Bool)
 | []=>some (Sum.inl ())
 | f::g=>on (f) fun j=>on (fB j.aa) fun b=>on (bif !(!b) then f else aO.zero) fun k=>a_ (!(!b)) (qd k.dr) false fun l=>bif ((!b)||(!l)) then(some (Sum.inr false)) else(qp  (g) )
def uP (b:(Sl aO)):Option Bool:=Option.bind (qp  b.l ) fun f=>match f with|Sum.inl _=>(on (()) fun _=>some (decide (((b.l.length:Nat):Int)<=(16:Int))))|Sum.inr g=>(some g)
theorem MA {f w0 r}(b:uP f=some r) (H:ah) :At 125 [.d (Sl.d 6 aO.c w0 f)] H (RT (.a (.d (.bool r))) H):=by
 unfold uP at b;refine AC.oW 29 [.tmp 2] Tryz.call125 Tryz.func125 ?_;refine Y3 ?_;refine aN (tl [0]) (fun(z:Unit)=>[]) (fun z=>H) (fun z=>(some (decide (((f.l.length:Nat):Int)<=(16:Int))))=some r) ?_ ?_
 ·intro F q;refine Y4 ?_;obtain⟨m,p,b⟩:=b5 b;refine bx (tl [0]) (fun(z:Nat)=>[(3,vi z)]) (fun z=>H) (fun z=>f.l.length-z) (fun z=>Option.bind (qp  (f.l.drop z) ) m=some r) 0 b wA ?_;rintro g b G s;try dsimp only at b
  refine ar fun I t=>Y3 ?_;refine aV aO.c f fun J=>Y2 ?_;refine ag.bW (fun l=>Option.bind (qp  l ) m=some r) b rfl (fun K j k b=>?_) (fun k b=>?_)
  ·rw [qp] at b;try dsimp only at k
   have L:=oD k;refine sk t (ar fun M u=>Y4 ?_);obtain⟨N,v,b⟩:=vO j b;refine S (ix aO.c g v) (Y2 ?_);obtain⟨O,w,b⟩:=dm b;refine Sc rfl rfl (gV w) (Y4 ?_);obtain⟨P,y,b⟩:=fo (fun _=>j) b;refine fc 18 19 rfl rfl (fun hC=>ix aO.c g (y hC)) ?_;refine Gk 20 ?_;refine Gk 21 ?_;obtain⟨Q,B,b⟩:=fG b
   refine dx 22 rfl rfl rfl rfl rfl (fun hC=>Cp (B hC)) ?_;refine Gk 23 ?_;refine Y2 ?_;refine cO b (fun C b=>?_) (fun C b=>?_)
   ·refine Y3 ?_;exact rs (ku p b:)
   refine sk u (Y5 ?_);exact s _ (g+1) wA b (dl j)
  rw [qp] at b;have b:=ku p b;try dsimp only at b
  refine ag.exit ?_;obtain⟨R,E,b⟩:=b8 b;exact q _ () wA (ku E b:)
 rintro _ b;try dsimp only at b
 refine Y2 ?_;refine aV aO.c f fun U=>Y3 ?_;exact rt b
def qq :List aP->Option (Unit ⊕ Bool)
 | []=>some (Sum.inl ())
 | f::g=>on (f) fun j=>on (fB j.aa) fun b=>on (bif !(!b) then f else aP.zero) fun k=>a_ (!(!b)) (uP k.aG) false fun l=>bif ((!b)||(!l)) then(some (Sum.inr false)) else(qq  (g) )
def xX (b:(Sl aP)):Option Bool:=Option.bind (qq  b.l ) fun f=>match f with|Sum.inl _=>(on (()) fun _=>some (decide (((b.l.length:Nat):Int)<=(16:Int))))|Sum.inr g=>(some g)
theorem VY {f w0 r}(b:xX f=some r) (H:ah) :At 124 [.d (Sl.d 2 aP.c w0 f)] H (RT (.a (.d (.bool r))) H):=by
 unfold xX at b;refine AC.oW 29 [.tmp 2] Tryz.call124 Tryz.func124 ?_;refine Y3 ?_;refine aN (tl [0]) (fun(z:Unit)=>[]) (fun z=>H) (fun z=>(some (decide (((f.l.length:Nat):Int)<=(16:Int))))=some r) ?_ ?_
 ·intro F q;refine Y4 ?_;obtain⟨m,p,b⟩:=b5 b;refine bx (tl [0]) (fun(z:Nat)=>[(3,vi z)]) (fun z=>H) (fun z=>f.l.length-z) (fun z=>Option.bind (qq  (f.l.drop z) ) m=some r) 0 b wA ?_;rintro g b G s;try dsimp only at b
  refine ar fun I t=>Y3 ?_;refine aV aP.c f fun J=>Y2 ?_;refine ag.bW (fun l=>Option.bind (qq  l ) m=some r) b rfl (fun K j k b=>?_) (fun k b=>?_)
  ·rw [qq] at b;try dsimp only at k
   have L:=oD k;refine sk t (ar fun M u=>Y4 ?_);obtain⟨N,v,b⟩:=vO j b;refine S (ix aP.c g v) (Y2 ?_);obtain⟨O,w,b⟩:=dm b;refine Sc rfl rfl (gV w) (Y4 ?_);obtain⟨P,y,b⟩:=fo (fun _=>j) b;refine fc 18 19 rfl rfl (fun hC=>ix aP.c g (y hC)) ?_;refine Gk 20 ?_;refine Gk 21 ?_;obtain⟨Q,B,b⟩:=fG b
   refine dx 22 rfl rfl rfl rfl rfl (fun hC=>MA (B hC)) ?_;refine Gk 23 ?_;refine Y2 ?_;refine cO b (fun C b=>?_) (fun C b=>?_)
   ·refine Y3 ?_;exact rs (ku p b:)
   refine sk u (Y5 ?_);exact s _ (g+1) wA b (dl j)
  rw [qq] at b;have b:=ku p b;try dsimp only at b
  refine ag.exit ?_;obtain⟨R,E,b⟩:=b8 b;exact q _ () wA (ku E b:)
 rintro _ b;try dsimp only at b
 refine Y2 ?_;refine aV aP.c f fun U=>Y3 ?_;exact rt b
def qt (b:Int) (f:ai->Int->Option Bool):List ai->Option (Unit ⊕ Bool)
 | []=>some (Sum.inl ())
 | g::j=>on (g) fun k=>(f k b).bind fun l=>bif (!l) then(some (Sum.inr false)) else(qt b f (j) )
mutual
def od:Nat->(Sl ai)->Int->Option Bool
 | 0,_,_=>none
 | n+1,b,f=>bif (((decide (((b.l.length:Nat):Int)=(0:Int)))||(decide ((64:Int)<((b.l.length:Nat):Int))))||(decide ((24:Int)<f))) then(some false) else(Option.bind (qt f (qu n) b.l ) fun g=>match g with|Sum.inl _=>(on (()) fun _=>some true)|Sum.inr j=>(some j))
def qu:Nat->ai->Int->Option Bool
 | 0,_,_=>none
 | n+1,b,k=>(xX b.bS).bind fun m=>a_ (!(!m)) (uP b.aG) false fun p=>bif ((!m)||(!p)) then(some false) else(bif (decide (b.aj=(1:Int))) then(on (fB b.aa) fun f=>on (bif (f&&!((b.cq==([]:Bs)))) then fB b.cq else false) fun g=>a_ ((((f&&(((b.cq==([]:Bs)))||g))&&((b.b9==([]:Bs))))&&!(decide (((b.aK.l.length:Nat):Int)=(0:Int))))) (cV k (1:Int)) (0:Int) fun q=>a_ ((((f&&(((b.cq==([]:Bs)))||g))&&((b.b9==([]:Bs))))&&!(decide (((b.aK.l.length:Nat):Int)=(0:Int))))) ((od n) b.aK q) false fun r=>some (((f&&(((b.cq==([]:Bs)))||g))&&((b.b9==([]:Bs))))&&((decide (((b.aK.l.length:Nat):Int)=(0:Int)))||r))) else(bif (decide (b.aj=(2:Int))) then(on (Cv b.aa) fun s=>some ((((s&&((b.cq==([]:Bs))))&&((b.b9==([]:Bs))))&&(decide (((b.aG.l.length:Nat):Int)=(0:Int))))&&(decide (((b.aK.l.length:Nat):Int)=(0:Int))))) else(bif (decide (b.aj=(3:Int))) then(on (bif ((((b.aa==([]:Bs)))&&((b.cq==([]:Bs))))&&!((b.b9==([]:Bs)))) then fB b.b9 else false) fun j=>a_ ((((((b.aa==([]:Bs)))&&((b.cq==([]:Bs))))&&(((b.b9==([]:Bs)))||j))&&(decide (((b.aG.l.length:Nat):Int)=(0:Int))))) (cV k (1:Int)) (0:Int) fun t=>a_ ((((((b.aa==([]:Bs)))&&((b.cq==([]:Bs))))&&(((b.b9==([]:Bs)))||j))&&(decide (((b.aG.l.length:Nat):Int)=(0:Int))))) ((od n) b.aK t) false fun u=>some ((((((b.aa==([]:Bs)))&&((b.cq==([]:Bs))))&&(((b.b9==([]:Bs)))||j))&&(decide (((b.aG.l.length:Nat):Int)=(0:Int))))&&u)) else(some false))))
end
def Cw (n:Nat):Prop:=∀{a0:(Sl ai)}{b:Int}{w0:Option Nat}  {r:Bool},od n a0 b=some r->∀(H:ah),At 33 [.d (Sl.d 7 ai.c w0 a0),.d (.int .i64 b)] H (RT (.a (.d (.bool r))) H)
def Cx (n:Nat):Prop:=∀{a0:ai}{b:Int}   {r:Bool},qu n a0 b=some r->∀(H:ah),At 79 [.agg (ai.c a0),.d (.int .i64 b)] H (RT (.a (.d (.bool r))) H)
theorem VZ (n:Nat) (I:Cw (ak:=ak) n) (s:Cx (ak:=ak) n):Cw (ak:=ak) (n+1):=by
 intro f j w0  r b H;rw [od] at b;refine AC.oW 31 [.tmp 4] Tryz.call33 Tryz.func33 ?_;refine Y3 ?_;refine ar fun J t=>Y2 ?_;refine aV ai.c f fun K=>Y3 ?_;refine bE 10 rfl (fun hC=>dW ai.c f) ?_;refine Gk 11 ?_;refine Y3 ?_;refine Gk 15 ?_;refine Y2 ?_;refine cE b (fun u b=>?_) (fun u b=>?_)
 ·refine Y3 ?_;exact rt b
 refine sk t (aN kN (fun(z:Unit)=>[]) (fun z=>H) (fun z=>(some true)=some r) ?_ ?_)
 ·intro L v;refine Y4 ?_;obtain⟨k,m,b⟩:=b5 b;refine bx (tl [0,1]) (fun(z:Nat)=>[(5,vi z)]) (fun z=>H) (fun z=>f.l.length-z) (fun z=>Option.bind (qt j (qu n) (f.l.drop z) ) k=some r) 0 b wA ?_;rintro p b M w;try dsimp only at b
  refine ar fun N y=>Y3 ?_;refine aV ai.c f fun O=>Y2 ?_;refine ag.bW (fun l=>Option.bind (qt j (qu n) l ) k=some r) b rfl (fun P q g b=>?_) (fun g b=>?_)
  ·rw [qt] at b;try dsimp only at g
   have Q:=oD g;refine sk y (ar fun R B=>Y4 ?_);obtain⟨U,C,b⟩:=vO q b;refine S (ix ai.c p C) (Y2 ?_);obtain⟨W,E,b⟩:=aQ b;refine Sc rfl rfl (s E) (Y2 ?_);refine cO b (fun F b=>?_) (fun F b=>?_)
   ·refine Y3 ?_;exact rs (ku m b:)
   refine sk B (Y5 ?_);exact w _ (p+1) wA b (dl q)
  rw [qt] at b;have b:=ku m b;try dsimp only at b
  refine ag.exit ?_;obtain⟨X,G,b⟩:=b8 b;exact v _ () wA (ku G b:)
 rintro _ b;try dsimp only at b
 refine Y3 ?_;exact rt b
theorem V0 (n:Nat) (g:Cw (ak:=ak) n) (F:Cx (ak:=ak) n):Cx (ak:=ak) (n+1):=by
 intro f G   r b H;rw [qu] at b;refine AC.oW 110 [.tmp 4] Tryz.call79 Tryz.func79 ?_;refine Y4 ?_;refine ar fun I j=>Y3 ?_;obtain⟨J,k,b⟩:=bz b;refine Sc rfl rfl (VY k) (Y3 ?_);refine Gk 10 ?_;obtain⟨K,l,b⟩:=dV b;refine dx 11 rfl rfl rfl rfl rfl (fun hC=>MA (l hC)) ?_;refine Gk 12 ?_;refine Y2 ?_;refine cE b (fun m b=>?_) (fun m b=>?_)
 ·refine Y3 ?_;exact rt b
 refine sk j (ar fun L p=>Y9 ?_);refine cE b (fun q b=>?_) (fun q b=>?_)
 ·refine Y3 ?_;obtain⟨M,s,b⟩:=dD b;refine Sc rfl rfl (gV s) (Y2 ?_);refine Gk 23 ?_;refine Gk 24 ?_;refine Gk 25 ?_;refine Y1 ?_;refine Gk 27 ?_;obtain⟨N,t,b⟩:=jv (fun _=>rfl) b;refine dx 28 rfl rfl rfl rfl rfl (fun hC=>gV (t hC)) ?_;refine bE 26 rfl (fun hC=>kB rfl rfl rfl) ?_;refine Y3 ?_;refine Gk 33 ?_;refine Gk 34 ?_;refine Y3 ?_
  refine bE 38 rfl (fun hC=>cA (TK rfl) rfl rfl (congrArg (fun x=>some (A.d x)) (ai.gD _))) ?_;refine bE 39 rfl (fun hC=>dW ai.c f.aK) ?_;refine Gk 40 ?_;refine Gk 41 ?_;refine Y1 ?_;refine bE 43 rfl (fun hC=>cA (TK rfl) rfl rfl (congrArg (fun x=>some (A.d x)) (ai.gD _))) ?_;refine Y1 ?_;obtain⟨O,u,b⟩:=dV b;refine bE 45 rfl (fun hC=>gh (u hC)) ?_
  obtain⟨P,v,b⟩:=dV b;refine fV 44 46 rfl rfl rfl rfl rfl rfl (fun hC=>g (v hC)) ?_;refine bE 42 rfl (fun hC=>kB rfl rfl rfl) ?_;refine Y3 ?_;exact rt b
 refine Y4 ?_;refine cE b (fun w b=>?_) (fun w b=>?_)
 ·refine Y3 ?_;obtain⟨Q,y,b⟩:=dD b;refine Sc rfl rfl (Mz y) (Y2 ?_);refine Gk 56 ?_;refine Gk 57 ?_;refine Y3 ?_;refine Gk 61 ?_;refine Gk 62 ?_;refine Y3 ?_;refine Gk 66 ?_;refine bE 67 rfl (fun hC=>dW aO.c f.aG) ?_;refine Gk 68 ?_;refine Y3 ?_;refine bE 72 rfl (fun hC=>cA (TK rfl) rfl rfl (congrArg (fun x=>some (A.d x)) (ai.gD _))) ?_
  refine bE 73 rfl (fun hC=>dW ai.c f.aK) ?_;refine Gk 74 ?_;refine Y3 ?_;exact rt b
 refine Y4 ?_;refine cE b (fun z b=>?_) (fun z b=>?_)
 ·refine Y6 ?_;refine Gk 83 ?_;refine Gk 84 ?_;refine Y3 ?_;refine Gk 88 ?_;refine Gk 89 ?_;refine Gk 90 ?_;refine Y1 ?_;refine Gk 92 ?_;obtain⟨R,B,b⟩:=jv (fun _=>rfl) b;refine dx 93 rfl rfl rfl rfl rfl (fun hC=>gV (B hC)) ?_;refine bE 91 rfl (fun hC=>kB rfl rfl rfl) ?_;refine Y3 ?_;refine Gk 98 ?_;refine bE 99 rfl (fun hC=>dW aO.c f.aG) ?_;refine Gk 100 ?_;refine Y3 ?_
  refine bE 104 rfl (fun hC=>cA (TK rfl) rfl rfl (congrArg (fun x=>some (A.d x)) (ai.gD _))) ?_;refine Y1 ?_;obtain⟨S,C,b⟩:=dV b;refine bE 106 rfl (fun hC=>gh (C hC)) ?_;obtain⟨U,E,b⟩:=dV b;refine fV 105 107 rfl rfl rfl rfl rfl rfl (fun hC=>g (E hC)) ?_;refine Y3 ?_;exact rt b
 refine sk p (Y3 ?_);exact rt b
theorem zi:∀(n:Nat),(Cw (ak:=ak) n)/\(Cx (ak:=ak) n)
 | 0=>⟨fun b=>by first|cases b|(rw [od] at b; cases b),fun b=>by first|cases b|(rw [qu] at b; cases b)⟩
 | n+1=>⟨VZ n (zi n).1 (zi n).2,V0 n (zi n).1 (zi n).2⟩
def V1 (a0:(Sl ai)) (b:Int):Option Bool:=od F0 a0 b
theorem MB {f b w0 r}(g:V1 f b=some r) (H:ah) :At 33 [.d (Sl.d 7 ai.c w0 f),.d (.int .i64 b)] H (RT (.a (.d (.bool r))) H):=(zi F0).1 g H 
def ES (f:(Sl ai)) (b:Int):Option Bool:=od F0 f b
def qv :List bJ->Option (Unit ⊕ Bool)
 | []=>some (Sum.inl ())
 | j::k=>on (j) fun b=>on (bif (!((decide (b.aj<(1:Int)))||(decide ((3:Int)<b.aj)))&&(!(b.aa==([]:Bs)))) then fB b.aa else false) fun f=>a_ (!(((decide (b.aj<(1:Int)))||(decide ((3:Int)<b.aj)))||((!(b.aa==([]:Bs)))&&(!f)))) (xW b.fe) false fun g=>a_ (!((((decide (b.aj<(1:Int)))||(decide ((3:Int)<b.aj)))||((!(b.aa==([]:Bs)))&&(!f)))||(!g))) (ES b.aK (1:Int)) false fun l=>bif (((((decide (b.aj<(1:Int)))||(decide ((3:Int)<b.aj)))||((!(b.aa==([]:Bs)))&&(!f)))||(!g))||(!l)) then(some (Sum.inr false)) else(qv  (k) )
def oe :List aY->Option (Unit ⊕ Bool)
 | []=>some (Sum.inl ())
 | j::k=>on (j) fun b=>on (Cv b.aa) fun f=>on (bif !(!f) then fB b.b9 else false) fun g=>a_ (!((!f)||(!g))) (ES b.aK (1:Int)) false fun l=>bif (((!f)||(!g))||(!l)) then(some (Sum.inr false)) else(oe  (k) )
def uQ (b:aR):Option Bool:=(cV ((b.bw.l.length:Nat):Int) ((b.aL.l.length:Nat):Int)).bind fun f=>bif ((decide (f<(1:Int)))||(decide ((64:Int)<f))) then(some false) else(Option.bind (qv  b.bw.l ) fun g=>match g with|Sum.inl _=>(on (()) fun _=>Option.bind (oe  b.aL.l ) fun j=>match j with|Sum.inl _=>(on (()) fun _=>some true)|Sum.inr k=>(some k))|Sum.inr m=>(some m))
theorem V2 {f r}(b:uQ f=some r) (H:ah) :At 15 [.agg (aR.c f)] H (RT (.a (.d (.bool r))) H):=by
 unfold uQ at b;refine AC.oW 92 [.tmp 2] Tryz.call15 Tryz.func15 ?_;refine Y7 ?_;refine aV bJ.c f.bw fun ae=>Y2 ?_;refine aV aY.c f.aL fun af=>?_;obtain⟨ai,w,b⟩:=bz b;refine S (gh w) (Y2 ?_);refine ar fun aj y=>Y5 ?_;refine Gk 18 ?_;refine Y2 ?_;refine cE b (fun B b=>?_) (fun B b=>?_)
 ·refine Y3 ?_;exact rt b
 refine sk y (aN (tl [1]) (fun(z:Unit)=>[]) (fun z=>H) (fun z=>(Option.bind (oe  f.aL.l ) fun C=>match C with|Sum.inl _=>(on (()) fun _=>some true)|Sum.inr E=>(some E))=some r) ?_ ?_)
 ·intro ak F;refine Y4 ?_;obtain⟨k,m,b⟩:=b5 b;refine bx (tl [1]) (fun(z:Nat)=>[(4,vi z)]) (fun z=>H) (fun z=>f.bw.l.length-z) (fun z=>Option.bind (qv  (f.bw.l.drop z) ) k=some r) 0 b wA ?_;rintro p b al G;try dsimp only at b
  refine ar fun am I=>Y4 ?_;refine aV bJ.c f.bw fun an=>Y2 ?_;refine ag.bW (fun l=>Option.bind (qv  l ) k=some r) b rfl (fun ao q g b=>?_) (fun g b=>?_)
  ·rw [qv] at b;try dsimp only at g
   have ap:=oD g;refine sk I (ar fun av J=>Y5 ?_);obtain⟨aw,K,b⟩:=vO q b;refine S (ix bJ.c p K) (Y4 ?_);refine bl 5 _ rfl (kl [1,4]) ?_;refine Y6 ?_;refine Gk 37 ?_;refine Gk 38 ?_;refine Y3 ?_;refine Gk 42 ?_;refine Gk 43 ?_;refine Gk 44 ?_;refine Y1 ?_;refine Gk 46 ?_;obtain⟨ax,L,b⟩:=fo (fun _=>rfl) b;refine dx 47 rfl rfl rfl rfl rfl (fun hC=>gV (L hC)) ?_
   refine Gk 48 ?_;refine bE 45 rfl (fun hC=>f_ rfl rfl rfl) ?_;refine Y3 ?_;refine Gk 53 ?_;obtain⟨ay,M,b⟩:=fG b;refine dx 54 rfl rfl rfl rfl rfl (fun hC=>VX (M hC)) ?_;refine Gk 55 ?_;refine Y3 ?_;refine Gk 59 ?_;obtain⟨az,N,b⟩:=fG b;refine dx 60 rfl rfl rfl rfl rfl (fun hC=>MB (N hC)) ?_;refine Gk 61 ?_;refine Y2 ?_
   refine cO b (fun O b=>?_) (fun O b=>?_)
   ·refine Y3 ?_;exact rs (ku m b:)
   refine sk J (Y5 ?_);exact G _ (p+1) wA b (dl q)
  rw [qv] at b;have b:=ku m b;try dsimp only at b
  refine ag.exit ?_;obtain⟨aA,P,b⟩:=b8 b;exact F _ () wA (ku P b:)
 rintro _ b;try dsimp only at b
 refine aN kN (fun(z:Unit)=>[]) (fun z=>H) (fun z=>(some true)=some r) ?_ ?_
 ·intro aB Q;refine Y4 ?_;obtain⟨s,t,b⟩:=b5 b;refine bx (tl [1]) (fun(z:Nat)=>[(6,vi z)]) (fun z=>H) (fun z=>f.aL.l.length-z) (fun z=>Option.bind (oe  (f.aL.l.drop z) ) s=some r) 0 b wA ?_;rintro u b aC R;try dsimp only at b
  refine ar fun aD U=>Y4 ?_;refine aV aY.c f.aL fun aE=>Y2 ?_;refine ag.bW (fun l=>Option.bind (oe  l ) s=some r) b rfl (fun aF v j b=>?_) (fun j b=>?_)
  ·rw [oe] at b;try dsimp only at j
   have aG:=oD j;refine sk U (ar fun aJ W=>Y5 ?_);obtain⟨aK,X,b⟩:=vO v b;refine S (ix aY.c u X) (Y4 ?_);refine bl 7 _ rfl (kl [1,6]) ?_;refine Y3 ?_;obtain⟨aM,Y,b⟩:=dm b;refine Sc rfl rfl (Mz Y) (Y3 ?_);refine Gk 81 ?_;obtain⟨aO,Z,b⟩:=fo (fun _=>rfl) b;refine dx 82 rfl rfl rfl rfl rfl (fun hC=>gV (Z hC)) ?_;refine Gk 83 ?_;refine Y3 ?_
   refine Gk 87 ?_;obtain⟨aP,aa,b⟩:=fG b;refine dx 88 rfl rfl rfl rfl rfl (fun hC=>MB (aa hC)) ?_;refine Gk 89 ?_;refine Y2 ?_;refine cO b (fun ab b=>?_) (fun ab b=>?_)
   ·refine Y3 ?_;exact rs (ku t b:)
   refine sk W (Y5 ?_);exact R _ (u+1) wA b (dl v)
  rw [oe] at b;have b:=ku t b;try dsimp only at b
  refine ag.exit ?_;obtain⟨aQ,ad,b⟩:=b8 b;exact Q _ () wA (ku ad b:)
 rintro _ b;try dsimp only at b
 refine Y3 ?_;exact rt b
def vY  (b:Int):Option Int:=some b
def zj (b:Nat) (f:Int->Nat->Option Int) (g:Int):Option Int:=f g (b+1)
def vZ (s:(Sl ai)) (g:Int) (b:Nat) (j:Int->Nat->Option Int) (k:(Sl ai)->Int->Option Int) (f:Int):Option Int:=(s.l[b]?).bind fun m=>(mu g f).bind fun p=>(k m.aK p).bind fun q=>(cV f q).bind fun r=>zj b j r
def v7 (f:(Sl ai)) (g:Int) (b:Nat) (m:Int->Nat->Option Int) (p:(Sl ai)->Int->Option Int):Nat->Int->Nat->Option Int
 | 0,_,_=>none
 | q+1,j,k=>(f.l[b]?).bind fun r=>bif ((decide (((k:Nat):Int)<((r.aG.l.length:Nat):Int)))&&(decide (j<=g))) then((f.l[b]?).bind fun s=>(s.aG.l[k]?).bind fun t=>(Mo t.dr).bind fun u=>(cV j u).bind fun v=>(v7 f g b m p q) v (k+1)) else(vZ f g b m p j)
def mc (b:(Sl ai)) (g:Int) (k:(Sl ai)->Int->Option Int):Nat->Int->Nat->Option Int
 | 0,_,_=>none
 | m+1,j,f=>bif ((decide (((f:Nat):Int)<((b.l.length:Nat):Int)))&&(decide (j<=g))) then((cV j (1:Int)).bind fun p=>(b.l[f]?).bind fun q=>(cV p ((q.aG.l.length:Nat):Int)).bind fun r=>(b.l[f]?).bind fun s=>(cV r ((s.bS.l.length:Nat):Int)).bind fun t=>v7 b g f ((mc b g k m)) k (Option.elim (b.l[f]?) 1 (fun u=>u.aG.l.length+1)) t 0) else(vY   j)
def jC:Nat->(Sl ai)->Int->Option Int
 | 0,_,_=>none
 | n+1,b,f=>mc b f (jC n) (b.l.length+1) (0:Int) 0
def Gf (n:Nat):Prop:=∀{a0:(Sl ai)}{b:Int}{w0:Option Nat}  {r:Int},jC n a0 b=some r->∀(H:ah),At 35 [.d (Sl.d 7 ai.c w0 a0),.d (.int .i64 b)] H (RT (.a (.d (.int .i64 r))) H)
theorem V3 (n:Nat) (w:Gf (ak:=ak) n):Gf (ak:=ak) (n+1):=by
 intro j k w0  r b H;rw [jC] at b;refine AC.oW 74 [.tmp 4] Tryz.call35 Tryz.func35 ?_;refine Y6 ?_;refine aN kN (fun(z:Int)=>[(5,.a (.d (.int .i64 z)))]) (fun z=>H) (fun z=>vY z=some r) ?_ ?_
 ·intro ao y;refine Y4 ?_;refine bx (tl [0,1]) (fun(z:Nat×Int×Nat)=>[(5,.a (.d (.int .i64 z.2.1))),(6,vi z.2.2)]) (fun z=>H) (fun z=>z.1) (fun z=>mc j k (jC n) z.1 z.2.1 z.2.2=some r) ((j.l.length+1),(0:Int),0) b wA ?_;rintro ⟨m,B,g⟩ b ap C;try dsimp only at b
  cases m with
  | zero=>cases b
  | succ m =>
    rw [mc] at b;refine ar fun av E=>Y3 ?_;refine aV ai.c j fun aw=>Y4 ?_;refine G2 13 14 rfl rfl BI ?_;refine Y2 ?_;refine cE b (fun p b=>?_) (fun p b=>?_)
    ·try dsimp only at p
     have ax:=oD (and_left p);refine sk E (aN (tl [0,1,6]) (fun(z:Int)=>[(5,.a (.d (.int .i64 z)))]) (fun z=>H) (fun z=>zj g ((mc j k (jC n) m)) z=some r) ?_ ?_)
     ·intro ay F;refine Y3 ?_;obtain⟨az,G,b⟩:=bO b;refine aH.s0 (rT rfl rfl G) rfl ?_;refine Y2 ?_;obtain⟨I,J,b⟩:=bO b;refine Sd (ix ai.c g J) (Y2 ?_);refine aH.s0 (mv (f:=aO.c) (s:=I.aG) (TK rfl) rfl rfl rfl) rfl ?_;obtain⟨aA,K,b⟩:=bO b;refine aH.s0 (rT rfl rfl K) rfl ?_;refine Y2 ?_;obtain⟨L,M,b⟩:=bO b;refine Sd (ix ai.c g M) (Y2 ?_)
      refine aH.s0 (mv (f:=aP.c) (s:=L.bS) (TK rfl) rfl rfl rfl) rfl ?_;obtain⟨N,O,b⟩:=bO b;refine aH.s0 (rT rfl rfl O) rfl ?_;refine Y2 ?_;refine aN (tl [0,1,6]) (fun(z:Int)=>[(5,.a (.d (.int .i64 z)))]) (fun z=>H) (fun z=>vZ j k g ((mc j k (jC n) m)) (jC n) z=some r) ?_ ?_
      ·intro aB P;refine Y4 ?_;refine bx (tl [0,1,6]) (fun(z:Nat×Int×Nat)=>[(5,.a (.d (.int .i64 z.2.1))),(7,vi z.2.2)]) (fun z=>H) (fun z=>z.1) (fun z=>v7 j k g ((mc j k (jC n) m)) (jC n) z.1 z.2.1 z.2.2=some r) ((Option.elim (j.l[g]?) 1 (fun q=>q.aG.l.length+1)),N,0) b wA ?_;rintro ⟨t,Q,v⟩ b aC R;try dsimp only at b
       cases t with
       | zero=>cases b
       | succ t =>
         rw [v7] at b;refine ar fun aD U=>Y4 ?_;obtain⟨q,W,b⟩:=bO b;refine S (ix ai.c g W) (Y2 ?_);refine aV aO.c q.aG fun aE=>Y4 ?_;refine G2 44 45 rfl rfl BI ?_;refine Y2 ?_;refine cE b (fun u b=>?_) (fun u b=>?_)
         ·try dsimp only at u
          have aF:=oD (and_left u);refine sk U (ar fun aJ X=>Y5 ?_);obtain⟨aK,Y,b⟩:=bO b;refine S (ix ai.c g Y) (Y3 ?_);obtain⟨aL,Z,b⟩:=bO b;refine S (ix aO.c v Z) (Y2 ?_);obtain⟨aM,aa,b⟩:=bO b;refine Sc rfl rfl (Mp aa) ?_;obtain⟨ab,ad,b⟩:=bO b;refine S (gh ad) (Y2 ?_);refine X _ ?_;refine Y5 ?_;exact R _ (t,ab,(v+1)) wA b (nS _)
         refine ag.exit ?_;exact P _ Q wA b
      rintro aQ b;try dsimp only at b
      unfold vZ at b;refine Y4 ?_;obtain⟨aR,ae,b⟩:=bO b;refine S (ix ai.c g ae) (Y1 ?_);refine s0 (cA (TK rfl) rfl rfl (congrArg (fun x=>some (A.d x)) (ai.gD _))) rfl ?_;refine Y2 ?_;obtain⟨aS,af,b⟩:=bO b;refine S (D4 af) ?_;obtain⟨aT,aj,b⟩:=bO b;refine Sc rfl rfl (w aj) ?_;obtain⟨al,am,b⟩:=bO b;refine S (gh am) (Y2 ?_);exact F _ al wA b
     rintro an b;try dsimp only at b
     unfold zj at b;refine Y5 ?_;exact C _ (m,an,(g+1)) wA b (nS _)
    refine ag.exit ?_;exact y _ B wA b
 rintro aU b;try dsimp only at b
 unfold vY at b;refine Y4 ?_;exact rt b
theorem MC:∀(n:Nat),(Gf (ak:=ak) n)
 | 0=>fun b=>by first|cases b|(rw [jC] at b; cases b)
 | n+1=>V3 n (MC n)
def Gg (f:(Sl ai)) (b:Int):Option Int:=jC F0 f b
theorem MD {f b w0 r}(g:Gg f b=some r) (H:ah) :At 35 [.d (Sl.d 7 ai.c w0 f),.d (.int .i64 b)] H (RT (.a (.d (.int .i64 r))) H):=(MC F0) g H 
def sv (f:Int) (g:ai):List aO->Int->Option (Int)
 | [],b=>some b
 | j::k,b=>bif (decide (b<=f)) then(on (g) fun q=>on (j) fun l=>(EP l.dr).bind fun m=>(cV b m).bind fun p=>sv f g (k) p) else(some b)
theorem V4 {q:Sl ai}{m:Int}{p:Nat}{r:Int->Nat->Option Int}{s:(Sl ai)->Int->Option Int}{k:ai}(t:q.l[p]?=some k) (u:(Int)->Option Int) (v:∀(b:Nat) (f:Int) (g:Nat),vZ q m p r s f=u f):∀(b:Nat) (f:Int) (g:Nat),(0<b/\k.aG.l.length<g+b)->v7 q m p r s b f g=Option.bind (sv m k (k.aG.l.drop g) f) u:=by
 intro b;induction b with
 | zero=>intro f g hn; exact absurd hn.1 (by omega)
 | succ b y =>
  intro f g hn;rw [v7];refine Q.preB t fun z B=>?_;subst B;by_cases aJ:g<z.aG.l.length
  ·obtain⟨C,j⟩:=Qa aJ;rw [Q.gP j,sv];refine Q.I5 (Q.AF aJ) ?_;refine Q.kE ?_ ?_
   ·refine Q.iB t fun E w=>?_;refine Q.iB (by first|exact j|(simp only [w]; exact j)|(simp only [w] at j ⊢; exact j)) fun F G=>?_;refine Q.ji rfl fun H=>?_;refine Q.ji rfl fun I=>?_;all_goals exact y _ _ ⟨by omega,by omega⟩
   all_goals exact v b f g
  rw [dL (by omega),sv];refine Q.I6 (Q.DY aJ) ?_;exact v b f g
def sw (g:Int) (j:(Sl ai)->Int->Option Int):List ai->Int->Option (Int)
 | [],b=>some b
 | f::m,b=>bif (decide (b<=g)) then((cV b (1:Int)).bind fun p=>on (f) fun q=>(cV p ((q.aG.l.length:Nat):Int)).bind fun r=>on (f) fun s=>(cV r ((s.bS.l.length:Nat):Int)).bind fun t=>Option.bind (sv g f f.aG.l t) fun u=>on (u) fun k=>on (f) fun v=>(mu g k).bind fun w=>(j v.aK w).bind fun y=>(cV k y).bind fun z=>on (z) fun B=>sw g j (m) B) else(some b)
theorem V5 {k:Sl ai}{m:Int}{p:(Sl ai)->Int->Option Int}(s:(Int)->Option Int) (t:∀(b:Nat) (g:Int) (f:Nat),vY   g=s g):∀(b:Nat) (g:Int) (f:Nat),(0<b/\k.l.length<f+b)->mc k m p b g f=Option.bind (sw m p (k.l.drop f) g) s:=by
 intro b;induction b with
 | zero=>intro g f hn; exact absurd hn.1 (by omega)
 | succ b u =>
  intro g f hn;rw [mc];by_cases aJ:f<k.l.length
  ·obtain⟨G,j⟩:=Qa aJ;rw [Q.gP j,sw];refine Q.I5 (Q.AF aJ) ?_;refine Q.kE ?_ ?_
   ·refine Q.ji rfl fun H=>?_;refine Q.iB j fun I J=>?_;refine Q.ji rfl fun K=>?_;refine Q.iB j fun L M=>?_;refine Q.ji rfl fun N=>?_;refine Q.kF fun v w=>?_;refine V4 j v ?_ _ _ _ ⟨by rw [j]; exact Nat.succ_pos _,by rw [j]; simp only [Option.elim]; omega⟩;intro O P R;refine Qe (w _) ?_;refine Q.lu fun y z=>?_
    have B:∀(q:Int),vZ k m f (mc k m p b) p q=y q:=by
     intro q;refine Qe (z _) ?_;unfold vZ;refine Q.iB j fun S U=>?_;refine Q.ji rfl fun W=>?_;refine Q.ji rfl fun X=>?_;refine Q.ji rfl fun Y=>?_;refine Q.lu fun C E=>?_;have F:∀(r:Int),zj f (mc k m p b) r=C r:=by
      intro r;refine Qe (E _) ?_;unfold zj;all_goals exact u _ _ ⟨by omega,by omega⟩
     all_goals exact F _
    all_goals exact B _
   all_goals exact t b g f
  rw [dL (by omega),sw];refine Q.I6 (Q.DY aJ) ?_;exact t b g f
def qw:Nat->(Sl ai)->Int->Option Int
 | 0,_,_=>none
 | n+1,j,b=>Option.bind (sw b (qw n) j.l (0:Int)) fun f=>on (f) fun g=>some g
theorem V6:∀n:Nat,jC n=qw n:=by
 intro n;induction n with
 | zero=>exact(by funext q f; first|rfl|(rw [jC,qw]))
 | succ n g =>
  funext q f
  refine Qs ?_;rw [jC,qw];try rw [g]
  refine Q.kF fun j k=>?_;refine V5  j ?_ _ _ _ ⟨Nat.succ_pos _,by omega⟩;intro r s t;refine Qe (k _) ?_;refine Q.lu fun l m=>?_;have p:∀(b:Int),vY  b=l b:=by
   intro b;refine Qe (m _) ?_;unfold vY;all_goals rfl
  all_goals exact p _
def x_ (f:(Sl ai)) (b:Int):Option Int:=qw F0 f b
theorem ME (a0:(Sl ai)) (b:Int):Gg a0 b=x_ a0 b:=by
 unfold Gg x_; rw [(V6 F0)]
def og :List bJ->Int->Option (Int)
 | [],b=>some b
 | f::g,b=>bif (decide (b<=(600:Int))) then(on (f) fun j=>(cV b ((j.fe.l.length:Nat):Int)).bind fun k=>on (f) fun m=>(x_ m.aK (600:Int)).bind fun p=>(cV k p).bind fun q=>og  (g) q) else(some b)
def mL :List aY->Int->Option (Int)
 | [],b=>some b
 | f::g,b=>bif (decide (b<=(600:Int))) then(on (f) fun j=>(x_ j.aK (600:Int)).bind fun k=>(cV b k).bind fun l=>mL  (g) l) else(some b)
def ya (b:aR):Option Bool:=(cV ((b.bw.l.length:Nat):Int) ((b.aL.l.length:Nat):Int)).bind fun f=>Option.bind (og  b.bw.l f) fun g=>on (g) fun j=>Option.bind (mL  b.aL.l j) fun k=>on (k) fun m=>some (decide ((600:Int)<m))
theorem V7 {g r}(b:ya g=some r) (H:ah) :At 16 [.agg (aR.c g)] H (RT (.a (.d (.bool r))) H):=by
 unfold ya at b;refine AC.oW 63 [.tmp 2] Tryz.call16 Tryz.func16 ?_;refine Y7 ?_;refine aV bJ.c g.bw fun am=>Y2 ?_;refine aV aY.c g.aL fun an=>?_;obtain⟨C,E,b⟩:=bz b;refine S (gh E) (Y2 ?_);refine aN (tl [1]) (fun(z:Int)=>[(3,.a (.d (.int .i64 z)))]) (fun z=>H) (fun z=>(Option.bind (mL  g.aL.l z) fun j=>on (j) fun w=>some (decide ((600:Int)<w)))=some r) ?_ ?_
 ·intro ao F;refine Y4 ?_;obtain⟨k,G,b⟩:=b5 b;refine bx (tl [1]) (fun(z:Int×Nat)=>[(3,.a (.d (.int .i64 z.1))),(4,vi z.2)]) (fun z=>H) (fun z=>g.bw.l.length-z.2) (fun z=>Option.bind (og  (g.bw.l.drop z.2) z.1) k=some r) (C,0) b wA ?_;rintro ⟨m,p⟩ b ap I;try dsimp only at b
  refine ar fun av J=>Y4 ?_;refine aV bJ.c g.bw fun aw=>Y3 ?_;refine Gk 19 ?_;refine Y2 ?_;refine ag.uv (fun l=>Option.bind (og  l m) k=some r) (Option.bind (some m) k=some r) b (fun b=>by rw [og] at b; exact b) (fun _ hd b=>by rw [og] at b; rw [hd] at b; exact b) rfl rfl (fun ax q t K b=>?_) (fun t b=>?_)
  ·rw [og] at b;rw [K,cond_true] at b;try dsimp only at t
   have ay:=oD (and_left t);refine sk J (ar fun az L=>Y1 ?_);refine ag.draw rfl ?_;refine Y4 ?_;obtain⟨M,N,b⟩:=vO q b;refine Sd (ix bJ.c p N) (Y2 ?_);refine aH.s0 (mv (f:=bN.c) (s:=M.fe) (TK rfl) rfl rfl rfl) rfl ?_;obtain⟨aA,O,b⟩:=aQ b;refine aH.s0 (rT rfl rfl O) rfl ?_;refine Y3 ?_;obtain⟨aB,P,b⟩:=vO q b;refine Sd (ix bJ.c p P) (Y2 ?_)
   obtain⟨aC,Q,b⟩:=qO (ME _ _) b;refine ck rfl rfl (MD Q) ?_;obtain⟨R,U,b⟩:=aQ b;refine aH.s0 (rT rfl rfl U) rfl ?_;refine Y2 ?_;refine L _ ?_;refine Y5 ?_;exact I _ (R,(p+1)) wA b (dl q)
  have b:=ku G b;refine ag.exit ?_;obtain⟨aD,W,b⟩:=b8 b;exact F _ m wA (ku W b:)
 rintro X b;try dsimp only at b
 refine aN kN (fun(z:Int)=>[(3,.a (.d (.int .i64 z)))]) (fun z=>H) (fun z=>(some (decide ((600:Int)<z)))=some r) ?_ ?_
 ·intro aE Y;refine Y4 ?_;obtain⟨u,Z,b⟩:=b5 b;refine bx (tl [1]) (fun(z:Int×Nat)=>[(3,.a (.d (.int .i64 z.1))),(5,vi z.2)]) (fun z=>H) (fun z=>g.aL.l.length-z.2) (fun z=>Option.bind (mL  (g.aL.l.drop z.2) z.1) u=some r) (X,0) b wA ?_;rintro ⟨j,y⟩ b aF aa;try dsimp only at b
  refine ar fun aG ab=>Y4 ?_;refine aV aY.c g.aL fun aJ=>Y3 ?_;refine Gk 47 ?_;refine Y2 ?_;refine ag.uv (fun l=>Option.bind (mL  l j) u=some r) (Option.bind (some j) u=some r) b (fun b=>by rw [mL] at b; exact b) (fun _ hd b=>by rw [mL] at b; rw [hd] at b; exact b) rfl rfl (fun aK B v ad b=>?_) (fun v b=>?_)
  ·rw [mL] at b;rw [ad,cond_true] at b;try dsimp only at v
   have aM:=oD (and_left v);refine sk ab (ar fun aO ae=>Y6 ?_);obtain⟨aP,af,b⟩:=vO B b;refine S (ix aY.c y af) (Y2 ?_);obtain⟨aS,ai,b⟩:=qO (ME _ _) b;refine Sc rfl rfl (MD ai) ?_;obtain⟨aj,ak,b⟩:=aQ b;refine S (gh ak) (Y2 ?_);refine ae _ ?_;refine Y5 ?_;exact aa _ (aj,(y+1)) wA b (dl B)
  have b:=ku Z b;refine ag.exit ?_;obtain⟨aT,al,b⟩:=b8 b;exact Y _ j wA (ku al b:)
 rintro w b;try dsimp only at b
 refine Y5 ?_;exact rt b
def zf (k:an) (f:aR):Option Bool:=(xV k).bind fun b=>a_ (b) (uQ f) false fun g=>a_ ((b&&g)) (ya f) false fun j=>some ((b&&g)&&(!j))
def A4 (f:an) (b:aR):Option Bool:=zf f b
theorem UX (a0:an) (b:aR):A4 a0 b=zf a0 b:=rfl
theorem Q0 {g f r}(b:A4 g f=some r) (H:ah) :At 5 [.agg (an.c g),.agg (aR.c f)] H (RT (.a (.d (.bool r))) H):=by
 unfold A4 zf at b;refine AC.oW 16 [.tmp 4] Tryz.call5 Tryz.func5 ?_;refine Y7 ?_;obtain⟨m,j,b⟩:=bz b;refine Sc rfl rfl (VS j) (Y2 ?_);obtain⟨p,k,b⟩:=dV b;refine dx 8 rfl rfl rfl rfl rfl (fun hC=>V2 (k hC)) ?_;refine Y3 ?_;obtain⟨q,l,b⟩:=dV b;refine dx 12 rfl rfl rfl rfl rfl (fun hC=>V7 (l hC)) ?_;refine Gk 13 ?_;refine Y3 ?_;exact rt b
def gE (b:Int):Bs:=bif (decide (b=(1:Int))) then(([81,117,101,114,121]:Bs)) else(bif (decide (b=(2:Int))) then(([77,117,116,97,116,105,111,110]:Bs)) else(bif (decide (b=(3:Int))) then(([83,117,98,115,99,114,105,112,116,105,111,110]:Bs)) else(([]:Bs))))
def Cc (b:Int):Option Bs:=some (gE b)
theorem zk {f r}(b:Cc f=some r) (H:ah) :At 38 [.d (.int .i64 f)] H (RT (.a (.d (.str r))) H):=by
 unfold Cc gE at b;refine AC.oW 10 [.tmp 2] Tryz.call38 Tryz.func38 ?_;refine Y3 ?_;refine ar fun m g=>Y8 ?_;refine cP b (fun j b=>?_) (fun j b=>?_)
 ·refine Y3 ?_;exact rt b
 refine Y4 ?_;refine cP b (fun k b=>?_) (fun k b=>?_)
 ·refine Y3 ?_;exact rt b
 refine Y4 ?_;refine cP b (fun l b=>?_) (fun l b=>?_)
 ·refine Y3 ?_;exact rt b
 refine sk g (Y3 ?_);exact rt b
def lN (b:Bs):List ay->Unit ⊕ ((ay×Bool))
 | []=>Sum.inl ()
 | g::j=>on (g) fun f=>bif ((f.aa==b)) then(Sum.inr (f,true)) else(lN b (j) )
def cL (j:an) (b:Bs):(ay×Bool):=on (lN b j.aA.l ) fun f=>match f with|Sum.inl _=>(on (()) fun _=>((ay.mk 0 [] Sl.nil Sl.nil Sl.nil Sl.nil Sl.nil),false))|Sum.inr g=>(g)
def rZ (f:an) (b:Bs):Option (ay×Bool):=some (cL f b)
theorem J4 (a0:an) (b:Bs):rZ a0 b=some (cL a0 b):=rfl
theorem iM {f g r}(b:rZ f g=some r) (H:ah) :At 43 [.agg (an.c f),.d (.str g)] H (RT (.b_ [.agg (ay.c r.1),.d (.bool r.2)]) H):=by
 unfold rZ cL at b;refine AC.oW 22 [.cell 4 47,.tmp 5] Tryz.call43 Tryz.func43 ?_;refine Y5 ?_;refine fh (tl [4]) (fun(z:ay)=>[]) (fun z=>[ay.c z]) (fun z=>H) (fun z=>some (((ay.mk 0 [] Sl.nil Sl.nil Sl.nil Sl.nil Sl.nil),false))=some r) ?_ ?_
 ·intro E t;refine Y3 ?_;refine aV ay.c f.aA fun F=>Y3 ?_;obtain⟨k,m,b⟩:=eH b;refine iA (tl [1,4,9,10]) (fun(z:Nat×ay)=>[(11,vi z.1)]) (fun z=>[ay.c z.2]) (fun z=>H) (fun z=>f.aA.l.length-z.1) (fun z=>k (lN g (f.aA.l.drop z.1) )=some r) (0,ay.zero) b wA ?_;rintro ⟨p,q⟩ b G u;try dsimp only at b
  refine Y3 ?_;refine ar fun I v=>?_;refine ag.bW (fun l=>k (lN g l )=some r) b rfl (fun J s j b=>?_) (fun j b=>?_)
  ·rw [lN] at b;try dsimp only at j
   have K:=oD j;refine sk v (ar fun L w=>Y2 ?_);obtain⟨M,y,b⟩:=vP s b;refine S (ix ay.c p y) (Y4 ?_);refine bl 7 _ rfl (kl [1,4,9,10,11]) ?_;refine Y6 ?_;refine cP b (fun B b=>?_) (fun B b=>?_)
   ·refine Y5 ?_;exact rs (ku m b:)
   refine sk w (Y4 ?_);exact u _ ((p+1),q) wA b (dl s)
  rw [lN] at b;have b:=ku m b;try dsimp only at b
  refine ag.exit ?_;obtain⟨N,C,b⟩:=eH b;exact t _ q wA (ku C b:)
 rintro O b;try dsimp only at b
 refine Y5 ?_;exact rt b
def tM :List aP->Unit ⊕ Bool
 | []=>Sum.inl ()
 | f::g=>on (f) fun b=>bif (((b.aa==([115,107,105,112]:Bs)))||((b.aa==([105,110,99,108,117,100,101]:Bs)))) then(Sum.inr false) else(tM  (g) )
def tL (b:(Sl ai)):Option Bool:=a_ (!(!decide (((b.l.length:Nat):Int)=(1:Int)))) (b.l[0]?) ai.zero fun f=>a_ (!((!decide (((b.l.length:Nat):Int)=(1:Int)))||(!decide (f.aj=(1:Int))))) (b.l[0]?) ai.zero fun g=>bif (((!decide (((b.l.length:Nat):Int)=(1:Int)))||(!decide (f.aj=(1:Int))))||((g.aa==([95,95,116,121,112,101,110,97,109,101]:Bs)))) then(some false) else((b.l[0]?).bind fun j=>on (tM  j.bS.l ) fun k=>match k with|Sum.inl _=>(on (()) fun _=>some true)|Sum.inr m=>(some m))
theorem V8 {j w0 r}(b:tL j=some r) (H:ah) :At 81 [.d (Sl.d 7 ai.c w0 j)] H (RT (.a (.d (.bool r))) H):=by
 unfold tL at b;refine AC.oW 40 [.tmp 2] Tryz.call81 Tryz.func81 ?_;refine Y3 ?_;refine ar fun J s=>Y2 ?_;refine aV ai.c j fun K=>Y3 ?_;obtain⟨L,t,b⟩:=dV b;refine bE 9 rfl (fun hC=>ix ai.c 0 (t hC)) ?_;refine Gk 10 ?_;refine Gk 11 ?_;refine Gk 12 ?_;refine Y3 ?_;obtain⟨M,u,b⟩:=dV b;refine bE 16 rfl (fun hC=>ix ai.c 0 (u hC)) ?_;refine Gk 17 ?_;refine Gk 18 ?_
 refine Gk 19 ?_;refine Y2 ?_;refine cE b (fun v b=>?_) (fun v b=>?_)
 ·refine Y3 ?_;exact rt b
 refine sk s (aN kN (fun(z:Unit)=>[]) (fun z=>H) (fun z=>(some true)=some r) ?_ ?_)
 ·intro N w;refine Y2 ?_;obtain⟨f,y,b⟩:=bz b;refine S (ix ai.c 0 y) (Y2 ?_);refine aV aP.c f.bS fun O=>Y3 ?_;obtain⟨k,m,b⟩:=b8 b;refine bx (tl [25,26]) (fun(z:Nat)=>[(27,vi z)]) (fun z=>H) (fun z=>f.bS.l.length-z) (fun z=>k (tM  (f.bS.l.drop z) )=some r) 0 b wA ?_;rintro p b P B;try dsimp only at b
  refine Y3 ?_;refine ar fun Q C=>?_;refine ag.bW (fun l=>k (tM  l )=some r) b rfl (fun R q g b=>?_) (fun g b=>?_)
  ·rw [tM] at b;try dsimp only at g
   have U:=oD g;refine sk C (ar fun W E=>Y2 ?_);obtain⟨X,F,b⟩:=vP q b;refine S (ix aP.c p F) (Y4 ?_);refine bl 4 _ rfl (kl [25,26,27]) ?_;refine Y6 ?_;refine Gk 35 ?_;refine Gk 36 ?_;refine Y2 ?_;refine cP b (fun G b=>?_) (fun G b=>?_)
   ·refine Y3 ?_;exact rs (ku m b:)
   refine sk E (Y4 ?_);exact B _ (p+1) wA b (dl q)
  rw [tM] at b;have b:=ku m b;try dsimp only at b
  refine ag.exit ?_;obtain⟨Y,I,b⟩:=b8 b;exact w _ () wA (ku I b:)
 rintro _ b;try dsimp only at b
 refine Y3 ?_;exact rt b
def pE (b:bJ):List bJ->(Sl Z9)->Option (((Sl Z9)) ⊕ ((Sl Z9)))
 | [],f=>some (Sum.inl f)
 | g::j,f=>on (g) fun k=>bif ((!(b.aa==([]:Bs)))&&((k.aa==b.aa))) then((bq 24 f (⟨false,[(Z9.mk 7 b.aa)]⟩:Sl Z9)).bind fun l=>some (Sum.inr l)) else(pE b (j) f)
def zc (C:an) (f:aR) (m:Int):Option (Sl Z9):=(dc f.bw.l m).bind fun b=>(js f.bw none (some m)).bind fun p=>Option.bind (Option.bind (pE b p.l (Sl.nil:Sl Z9)) fun q=>match q with|Sum.inl r=>(some r)|Sum.inr s=>(some s)) fun g=>Option.bind (bif (((b.aa==([]:Bs)))&&(decide ((1:Int)<((f.bw.l.length:Nat):Int)))) then((bq 24 g (⟨false,[(Z9.mk 6 [])]⟩:Sl Z9)).bind fun t=>some t) else(some g)) fun j=>on (gE b.aj) fun u=>on (cL C u) fun v=>Option.bind (bif (!v.2) then((bq 24 j (⟨false,[(Z9.mk 30 b.aa)]⟩:Sl Z9)).bind fun w=>some w) else(some j)) fun k=>a_ ((decide (b.aj=(3:Int)))) (tL b.aK) false fun y=>Option.bind (bif ((decide (b.aj=(3:Int)))&&(!y)) then((bq 24 k (⟨false,[(Z9.mk 30 b.aa)]⟩:Sl Z9)).bind fun z=>some z) else(some k)) fun B=>some B
theorem V9 {C m E r}(b:zc C m E=some r) (H:ah) :At 36 [.agg (an.c C),.agg (aR.c m),.d (.int .i64 E)] H (RT (.a (.d (Sl.d 2 Z9.c none r))) H):=by
 unfold zc at b;refine AC.oW 89 [.tmp 6] Tryz.call36 Tryz.func36 ?_;refine ag.tok 2 fun g aD=>?_;refine Y3 ?_;refine s0 (dM (k':=2) rfl) rfl ?_;refine Y4 ?_;refine ag.gv 7 2 g rfl au ?_;refine Y4 ?_;obtain⟨j,X,b⟩:=bz b;refine s0 (iK (f:=bJ.c) (TK rfl) rfl (TK rfl) rfl rfl rfl X) rfl ?_;refine Y4 ?_;refine bl 8 _ rfl (kl [2,3,4,7]) ?_
 refine aN (tl [3,4,8]) (fun(z:(Sl Z9))=>[(7,.a (.d (Sl.d 2 Z9.c (some g) z)))]) (fun z=>(tS H g 2 z)) (fun z=>(Option.bind (bif (((j.aa==([]:Bs)))&&(decide ((1:Int)<((m.bw.l.length:Nat):Int)))) then((bq 24 z (⟨false,[(Z9.mk 6 [])]⟩:Sl Z9)).bind fun p=>some p) else(some z)) fun q=>on (gE j.aj) fun F=>on (cL C F) fun G=>Option.bind (bif (!G.2) then((bq 24 q (⟨false,[(Z9.mk 30 j.aa)]⟩:Sl Z9)).bind fun s=>some s) else(some q)) fun t=>a_ ((decide (j.aj=(3:Int)))) (tL j.aK) false fun u=>Option.bind (bif ((decide (j.aj=(3:Int)))&&(!u)) then((bq 24 t (⟨false,[(Z9.mk 30 j.aa)]⟩:Sl Z9)).bind fun k=>some k) else(some t)) fun v=>some v)=some r) ?_ ?_
 ·intro aE I;refine Y4 ?_;obtain⟨w,Y,b⟩:=bz b;refine s0 (jg (f:=bJ.c) (l:=none) (r:=(some E)) (TK rfl) rfl (TK rfl) rfl rfl trivial rfl Y) rfl ?_;refine aV bJ.c w fun aF=>Y3 ?_;obtain⟨aG,J,b⟩:=b5 b;obtain⟨K,L,b⟩:=eB b
  refine bx (tl [3,4,8,21,22]) (fun(z:(Sl Z9)×Nat)=>[(7,.a (.d (Sl.d 2 Z9.c (some g) z.1))),(23,vi z.2)]) (fun z=>(tS H g 2 z.1)) (fun z=>w.l.length-z.2) (fun z=>Option.bind (pE j (w.l.drop z.2) z.1) K=some r) ((Sl.nil:Sl Z9),0) b wA ?_;rintro ⟨y,M⟩ b aJ Z;try dsimp only at b
  refine Y3 ?_;refine ar fun aL ab=>?_;refine ag.bW (fun l=>Option.bind (pE j l y) K=some r) b rfl (fun aM N B b=>?_) (fun B b=>?_)
  ·rw [pE] at b;try dsimp only at B
   have aO:=oD B;refine sk ab (ar fun aP ad=>Y2 ?_);obtain⟨aS,ae,b⟩:=vO N b;refine S (ix bJ.c M ae) (Y4 ?_);refine bl 10 _ rfl (kl [3,4,7,8,21,22,23]) ?_;refine Y6 ?_;refine Gk 31 ?_;refine Y1 ?_;refine Gk 33 ?_;refine G2 32 34 rfl rfl BS ?_;refine Y2 ?_;refine cO b (fun af b=>?_) (fun af b=>?_)
   ·refine Y6 ?_;obtain⟨O,ai,b⟩:=aQ b;refine SH (am Z9.c (TK rfl) rfl (TK rfl) (TK rfl) ai) ?_;refine hq (tS H g 2 O) (Y2 ?_);refine ag.exit ?_;have b:=ku L b;exact I _ O wA (ku J b:)
   refine sk ad (Y4 ?_);exact Z _ (y,(M+1)) wA b (dl N)
  rw [pE] at b;have b:=ku L b;try dsimp only at b
  refine ag.exit ?_;exact I _ y wA (ku J b:)
 rintro ak b;try dsimp only at b
 obtain⟨al,ao,b⟩:=b5 b;refine aN (tl [3,8]) (fun(z:(Sl Z9))=>[(7,.a (.d (Sl.d 2 Z9.c (some g) z)))]) (fun z=>(tS H g 2 z)) (fun z=>al z=some r) ?_ ?_
 ·intro aT P;refine Y6 ?_;refine Gk 48 ?_;refine bE 49 rfl (fun hC=>dW bJ.c m.bw) ?_;refine Gk 50 ?_;refine Y2 ?_;refine cO b (fun ap b=>?_) (fun ap b=>?_)
  ·refine Y4 ?_;obtain⟨p,av,b⟩:=aQ b;refine SH (am Z9.c (TK rfl) rfl (TK rfl) (TK rfl) av) ?_;refine hq (tS H g 2 p) (Y2 ?_);exact P _ p wA b
  refine ag.skip ?_;exact P _ ak wA b
 rintro q b;try dsimp only at b
 have b:=ku ao b;refine aN (tl [8]) (fun(z:(Sl Z9))=>[(7,.a (.d (Sl.d 2 Z9.c (some g) z)))]) (fun z=>(tS H g 2 z)) (fun z=>(a_ ((decide (j.aj=(3:Int)))) (tL j.aK) false fun u=>Option.bind (bif ((decide (j.aj=(3:Int)))&&(!u)) then((bq 24 z (⟨false,[(Z9.mk 30 j.aa)]⟩:Sl Z9)).bind fun k=>some k) else(some z)) fun v=>some v)=some r) ?_ ?_
 ·intro aU Q;refine Y4 ?_;obtain⟨F,aw,b⟩:=dD b;refine ck rfl rfl (zk aw) ?_;obtain⟨G,ax,b⟩:=dD b;refine ck rfl rfl (iM ax) (Y7 ?_);refine bl 11 _ rfl (kl [7,8,12]) ?_;refine Y4 ?_;obtain⟨aW,R,b⟩:=b5 b;refine cO b (fun ay b=>?_) (fun ay b=>?_)
  ·refine Y6 ?_;obtain⟨s,az,b⟩:=aQ b;refine SH (am Z9.c (TK rfl) rfl (TK rfl) (TK rfl) az) ?_;refine hq (tS H g 2 s) (Y2 ?_);exact Q _ s wA (ku R b:)
  refine ag.skip ?_;exact Q _ q wA (ku R b:)
 rintro t b;try dsimp only at b
 refine aN kN (fun(z:(Sl Z9))=>[(7,.a (.d (Sl.d 2 Z9.c (some g) z)))]) (fun z=>(tS H g 2 z)) (fun z=>(some z)=some r) ?_ ?_
 ·intro aX U;refine Y6 ?_;refine Gk 77 ?_;obtain⟨u,aA,b⟩:=dV b;refine dx 78 rfl rfl rfl rfl rfl (fun hC=>V8 (aA hC)) ?_;refine Gk 79 ?_;refine Y2 ?_;obtain⟨aY,W,b⟩:=b5 b;refine cO b (fun aB b=>?_) (fun aB b=>?_)
  ·refine Y6 ?_;obtain⟨k,aC,b⟩:=aQ b;refine SH (am Z9.c (TK rfl) rfl (TK rfl) (TK rfl) aC) ?_;refine hq (tS H g 2 k) (Y2 ?_);exact U _ k wA (ku W b:)
  refine ag.skip ?_;exact U _ t wA (ku W b:)
 rintro v b;try dsimp only at b
 refine Y4 ?_;refine ag.eG 6 rfl ?_;refine ry ?_;obtain rfl:=oJ b;refine bR.cK H rfl ⟨rfl,rfl⟩ ?_;exact sy
def rC (j:an) (g:aR):List bJ->Nat->(Sl Z9)->Option ((Sl Z9))
 | [],b,f=>some f
 | p::k,b,f=>(zc j g ((b:Nat):Int)).bind fun l=>(bq 24 f l).bind fun m=>rC j g (k) (b+1) m
def rD (f:aY):List aY->(Sl Z9)->Option (((Sl Z9)) ⊕ ((Sl Z9)))
 | [],b=>some (Sum.inl b)
 | g::j,b=>on (g) fun k=>bif ((k.aa==f.aa)) then((bq 24 b (⟨false,[(Z9.mk 7 f.aa)]⟩:Sl Z9)).bind fun l=>some (Sum.inr l)) else(rD f (j) b)
def nv (b:aR):List aY->Nat->(Sl Z9)->Option ((Sl Z9))
 | [],f,g=>some g
 | j::k,f,g=>on (j) fun m=>on ((⟨b.aL.nl,b.aL.l.take f⟩:Sl aY)) fun p=>Option.bind (Option.bind (rD m p.l g) fun q=>match q with|Sum.inl r=>(some r)|Sum.inr s=>(some s)) fun t=>nv b (k) (f+1) t
def zd (m:an) (b:aR):Option (Sl Z9):=Option.bind (rC m b b.bw.l 0 (Sl.nil:Sl Z9)) fun f=>on (f) fun g=>Option.bind (nv b b.aL.l 0 g) fun j=>on (j) fun k=>some k
def Cy (f:an) (b:aR):Option (Sl Z9):=zd f b
theorem UN (a0:an) (b:aR):Cy a0 b=zd a0 b:=rfl
theorem V_ {p g r}(b:Cy p g=some r) (H:ah) :At 17 [.agg (an.c p),.agg (aR.c g)] H (RT (.a (.d (Sl.d 2 Z9.c none r))) H):=by
 unfold Cy zd at b;refine AC.oW 55 [.tmp 4] Tryz.call17 Tryz.func17 ?_;refine ag.tok 2 fun j aC=>?_;refine Y3 ?_;refine s0 (dM (k':=2) rfl) rfl ?_;refine Y4 ?_;refine ag.gv 5 2 j rfl au ?_
 refine aN (tl [3]) (fun(z:(Sl Z9))=>[(5,.a (.d (Sl.d 2 Z9.c (some j) z)))]) (fun z=>(tS H j 2 z)) (fun z=>(Option.bind (nv g g.aL.l 0 z) fun m=>on (m) fun y=>some y)=some r) ?_ ?_
 ·intro aD R;refine Y3 ?_;refine aV bJ.c g.bw fun aE=>Y3 ?_;obtain⟨B,U,b⟩:=b5 b;refine bx (tl [2,3,13]) (fun(z:(Sl Z9)×Nat)=>[(5,.a (.d (Sl.d 2 Z9.c (some j) z.1))),(14,vi z.2)]) (fun z=>(tS H j 2 z.1)) (fun z=>g.bw.l.length-z.2) (fun z=>Option.bind (rC p g (g.bw.l.drop z.2) z.2 z.1) B=some r) ((Sl.nil:Sl Z9),0) b wA ?_;rintro ⟨C,E⟩ b aF W;try dsimp only at b
  refine Y3 ?_;refine ar fun aG X=>?_;refine ag.bW (fun l=>Option.bind (rC p g l E C) B=some r) b rfl (fun aJ Y q b=>?_) (fun q b=>?_)
  ·rw [rC] at b;try dsimp only at q
   have aK:=oD q;refine sk X (ar fun aM Z=>jM ?_);obtain⟨aO,aa,b⟩:=aQ b;refine Sc rfl rfl (V9 aa) ?_;obtain⟨F,ab,b⟩:=aQ b;refine SH (am Z9.c (TK rfl) rfl (TK rfl) (TK rfl) ab) ?_;refine hq (tS H j 2 F) (Y2 ?_);refine Z _ ?_;refine Y4 ?_;exact W _ (F,(E+1)) wA b (dl Y)
  rw [rC] at b;have b:=ku U b;refine ag.exit ?_;obtain⟨aP,ad,b⟩:=b8 b;exact R _ C wA (ku ad b:)
 rintro ae b;try dsimp only at b
 refine aN kN (fun(z:(Sl Z9))=>[(5,.a (.d (Sl.d 2 Z9.c (some j) z)))]) (fun z=>(tS H j 2 z)) (fun z=>(some z)=some r) ?_ ?_
 ·intro aS af;refine Y3 ?_;refine aV aY.c g.aL fun aT=>Y3 ?_;obtain⟨s,ai,b⟩:=b5 b;refine bx (tl [3,25,26]) (fun(z:(Sl Z9)×Nat)=>[(5,.a (.d (Sl.d 2 Z9.c (some j) z.1))),(27,vi z.2)]) (fun z=>(tS H j 2 z.1)) (fun z=>g.aL.l.length-z.2) (fun z=>Option.bind (nv g (g.aL.l.drop z.2) z.2 z.1) s=some r) (ae,0) b wA ?_;rintro ⟨m,k⟩ b aU aj;try dsimp only at b
  refine Y3 ?_;refine ar fun aW ak=>?_;refine ag.bW (fun l=>Option.bind (nv g l k m) s=some r) b rfl (fun aX G t b=>?_) (fun t b=>?_)
  ·rw [nv] at b;try dsimp only at t
   have aZ:=oD t;refine sk ak (aN (tl [3,25,26,27]) (fun(z:(Sl Z9))=>[(5,.a (.d (Sl.d 2 Z9.c (some j) z)))]) (fun z=>(tS H j 2 z)) (fun z=>Option.bind (nv g (g.aL.l.drop (k+1)) (k+1) z) s=some r) ?_ ?_)
   ·intro a0 I;refine Y3 ?_;obtain⟨J,al,b⟩:=vO G b;refine S (ix aY.c k al) (Y5 ?_);refine bl 8 _ rfl (kl [3,5,7,25,26,27]) ?_;refine Y4 ?_;obtain⟨u,ao,b⟩:=vO (Q.mB (by omega)) b;refine s0 (jg (f:=aY.c) (l:=none) (r:=(some ((k:Nat):Int))) (TK rfl) rfl (TK rfl) rfl rfl trivial rfl ao) rfl ?_;refine aV aY.c u fun a1=>Y3 ?_;obtain⟨a2,K,b⟩:=eB b
    obtain⟨L,M,b⟩:=eB b;refine bx (tl [3,8,25,26,27,35,36]) (fun(z:(Sl Z9)×Nat)=>[(5,.a (.d (Sl.d 2 Z9.c (some j) z.1))),(37,vi z.2)]) (fun z=>(tS H j 2 z.1)) (fun z=>u.l.length-z.2) (fun z=>Option.bind (rD J (u.l.drop z.2) z.1) L=some r) (m,0) b wA ?_;rintro ⟨v,N⟩ b a3 ap;try dsimp only at b
    refine Y3 ?_;refine ar fun a4 av=>?_;refine ag.bW (fun l=>Option.bind (rD J l v) L=some r) b rfl (fun a5 O w b=>?_) (fun w b=>?_)
    ·rw [rD] at b;try dsimp only at w
     have a6:=oD w;refine sk av (ar fun a7 aw=>Y2 ?_);obtain⟨a8,ax,b⟩:=vO O b;refine S (ix aY.c N ax) (Y4 ?_);refine bl 10 _ rfl (kl [3,5,8,25,26,27,35,36,37]) ?_;refine Y7 ?_;refine cO b (fun ay b=>?_) (fun ay b=>?_)
     ·refine Y6 ?_;obtain⟨P,az,b⟩:=aQ b;refine SH (am Z9.c (TK rfl) rfl (TK rfl) (TK rfl) az) ?_;refine hq (tS H j 2 P) (Y2 ?_);refine ag.exit ?_;have b:=ku M b;exact I _ P wA (ku K b:)
     refine sk aw (Y4 ?_);exact ap _ (v,(N+1)) wA b (dl O)
    rw [rD] at b;have b:=ku M b;try dsimp only at b
    refine ag.exit ?_;exact I _ v wA (ku K b:)
   rintro aA b;try dsimp only at b
   refine Y4 ?_;exact aj _ (aA,(k+1)) wA b (dl G)
  rw [nv] at b;have b:=ku ai b;refine ag.exit ?_;obtain⟨a9,aB,b⟩:=b8 b;exact af _ m wA (ku aB b:)
 rintro y b;try dsimp only at b
 refine Y4 ?_;refine ag.eG 4 rfl ?_;refine ry ?_;obtain rfl:=oJ b;refine bR.cK H rfl ⟨rfl,rfl⟩ ?_;exact sy
def iW (b:Z3) (f:Bool) (j:Int) (k:Bs):Option Z3:=bif f then((bq 24 b.aC (⟨false,[(Z9.mk j k)]⟩:Sl Z9)).bind fun g=>some (Z3.mk b.Fd b.Fq g)) else(some b)
theorem tO {f m p q g b r}(j:iW f m p q=some r) (H:ah) (v:H g=some (.cells (Z3.cg (some b) f))) (w:H b=some (.tok 2 f.aC.l.length)):At 40 [.d (.ptr g 0),.d (.bool m),.d (.int .i64 p),.d (.str q)] H (RT (.b_ []) (((tS H b 2 r.aC).set g (some (.cells (Z3.cg (some b) r)))))):=by
 unfold iW at j;refine AC.oW 21 [] Tryz.call40 Tryz.func40 ?_;have y:g≠b:=fun s=>by subst s; simp_all
 refine hz ((tS H b 2 f.aC).set g (some (.cells (Z3.cg (some b) f)))) (Y3 ?_);refine cE j (fun t j=>?_) (fun t j=>?_)
 ·refine jM ?_;obtain⟨k,u,j⟩:=bz j;refine SH (am Z9.c (TK rfl) rfl (TK rfl) (TK rfl) u) ?_;refine hq ((tS H b 2 k).set g (some (.cells (Z3.cg (some b) f)))) (Y2 ?_);refine eW (kz (TK rfl) rfl rfl au rfl (by repeat (first|exact cZ.zero|apply cZ.succ))) rfl rfl ?_;refine hq ((tS H b 2 k).set g (some (.cells (Z3.cg (some b) (Z3.mk f.Fd f.Fq k))))) (Y1 ?_)
  repeat (first|refine eS ?_|refine eR ?_|refine eP ?_)
  obtain rfl:=oJ j;refine bR.eX ((tS H b 2 k).set g (some (.cells (Z3.cg (some b) (Z3.mk f.Fd f.Fq k))))) (xs:=[]) rfl ⟨rfl,rfl⟩ ?_;exact(fun _ _ h=>h)
 refine ag.skip ?_;repeat (first|refine eS ?_|refine eR ?_|refine eP ?_)
 obtain rfl:=oJ j;refine bR.eX ((tS H b 2 f.aC).set g (some (.cells (Z3.cg (some b) f)))) (xs:=[]) rfl ⟨rfl,rfl⟩ ?_;exact(fun _ _ h=>h)
def zl (g:an) (b:Bs):Int:=on (cL g b) fun f=>f.1.aj
def Gh (f:an) (b:Bs):Option Int:=some (zl f b)
theorem Cz {g f r}(b:Gh g f=some r) (H:ah) :At 85 [.agg (an.c g),.d (.str f)] H (RT (.a (.d (.int .i64 r))) H):=by
 unfold Gh zl at b;refine AC.oW 15 [.tmp 4] Tryz.call85 Tryz.func85 ?_;refine Y7 ?_;obtain⟨k,j,b⟩:=eL b;refine Sc rfl rfl (iM j) (Y7 ?_);refine bl 5 _ rfl dR.nil ?_;refine Y5 ?_;exact rt b
def oS (b:Bs):Bool:=(((((b==([73,110,116]:Bs)))||((b==([83,116,114,105,110,103]:Bs))))||((b==([66,111,111,108,101,97,110]:Bs))))||((b==([73,68]:Bs))))
def xO (b:Bs):Option Bool:=some (oS b)
theorem rY {f r}(b:xO f=some r) (H:ah) :At 86 [.d (.str f)] H (RT (.a (.d (.bool r))) H):=by
 unfold xO oS at b;refine AC.oW 17 [.tmp 2] Tryz.call86 Tryz.func86 ?_;refine Y8 ?_;refine Gk 6 ?_;refine Y3 ?_;refine Gk 10 ?_;refine Y3 ?_;refine Gk 14 ?_;refine Y3 ?_;exact rt b
def fC (j:an) (f:Bs):Bool:=on (zl j f) fun b=>on (oS f) fun g=>((!g)&&(((decide (b=(1:Int)))||(decide (b=(2:Int))))||(decide (b=(3:Int)))))
theorem me {g f r}(b:some (fC g f)=some r) (H:ah) :At 41 [.agg (an.c g),.d (.str f)] H (RT (.a (.d (.bool r))) H):=by
 unfold fC at b;refine AC.oW 24 [.tmp 4] Tryz.call41 Tryz.func41 ?_;refine Y7 ?_;obtain⟨l,j,b⟩:=eL b;refine Sc rfl rfl (Cz j) (Y4 ?_);obtain⟨m,k,b⟩:=eL b;refine Sc rfl rfl (rY k) (Y3 ?_);refine Gk 13 ?_;refine Gk 14 ?_;refine Y1 ?_;refine Gk 16 ?_;refine bE 15 rfl (fun hC=>kB rfl rfl rfl) ?_;refine Gk 18 ?_;refine Y1 ?_;refine Gk 20 ?_
 refine bE 19 rfl (fun hC=>kB rfl rfl rfl) ?_;refine Y3 ?_;exact rt b
def qH (b:Bs):List aY->Unit ⊕ ((aY×Bool))
 | []=>Sum.inl ()
 | g::j=>on (g) fun f=>bif ((f.aa==b)) then(Sum.inr (f,true)) else(qH b (j) )
def jV (j:aR) (b:Bs):(aY×Bool):=on (qH b j.aL.l ) fun f=>match f with|Sum.inl _=>(on (()) fun _=>((aY.mk [] [] Sl.nil),false))|Sum.inr g=>(g)
def CA (f:aR) (b:Bs):Option (aY×Bool):=some (jV f b)
theorem v8 {f g r}(b:CA f g=some r) (H:ah) :At 53 [.agg (aR.c f),.d (.str g)] H (RT (.b_ [.agg (aY.c r.1),.d (.bool r.2)]) H):=by
 unfold CA jV at b;refine AC.oW 22 [.cell 4 74,.tmp 5] Tryz.call53 Tryz.func53 ?_;refine Y5 ?_;refine fh (tl [4]) (fun(z:aY)=>[]) (fun z=>[aY.c z]) (fun z=>H) (fun z=>some (((aY.mk [] [] Sl.nil),false))=some r) ?_ ?_
 ·intro E t;refine Y3 ?_;refine aV aY.c f.aL fun F=>Y3 ?_;obtain⟨k,m,b⟩:=eH b;refine iA (tl [1,4,9,10]) (fun(z:Nat×aY)=>[(11,vi z.1)]) (fun z=>[aY.c z.2]) (fun z=>H) (fun z=>f.aL.l.length-z.1) (fun z=>k (qH g (f.aL.l.drop z.1) )=some r) (0,aY.zero) b wA ?_;rintro ⟨p,q⟩ b G u;try dsimp only at b
  refine Y3 ?_;refine ar fun I v=>?_;refine ag.bW (fun l=>k (qH g l )=some r) b rfl (fun J s j b=>?_) (fun j b=>?_)
  ·rw [qH] at b;try dsimp only at j
   have K:=oD j;refine sk v (ar fun L w=>Y2 ?_);obtain⟨M,y,b⟩:=vP s b;refine S (ix aY.c p y) (Y4 ?_);refine bl 7 _ rfl (kl [1,4,9,10,11]) ?_;refine Y6 ?_;refine cP b (fun B b=>?_) (fun B b=>?_)
   ·refine Y5 ?_;exact rs (ku m b:)
   refine sk w (Y4 ?_);exact u _ ((p+1),q) wA b (dl s)
  rw [qH] at b;have b:=ku m b;try dsimp only at b
  refine ag.exit ?_;obtain⟨N,C,b⟩:=eH b;exact t _ q wA (ku C b:)
 rintro O b;try dsimp only at b
 refine Y5 ?_;exact rt b
end Go.Proofs
